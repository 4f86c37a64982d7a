import PyProof.Rows.All
import Wide.All
import OpenK.AllK
import Wide.FinOn
import HandS.ForMost
import HandS.IsInst
import HandS.Wide
import HandS.Exc
import HandS.DictComp
import HandS.SortOrd
import HandS.TupSets
import HandS.DeepEq
import HandS.Deep
import HandS.Style
import HandS.Flow
import HandS.Zip
import HandS.TupAny
import KE.KDictPairs
import HandS.TupMul
import HandS.More
import HandS.Text
import HandS.NoneIn
import HandS.Defaults
import HandS.EndBits
import KE.KSortedM
import HandS.SortInts
import HandS.Conv
import KE.KxMul
import HandS.Iter
import PyProof.Rows.SumAny
import KE.DataMinMax
import KE.SortData
import KE.GoesNew
import HandS.DictTup
import HandS.ListItems
import KE.KDictKeyed
import KE.GoesZip
import PySem.Challenge.RW_pulpreel_k13_whole_reels_turned_parted_a
set_option Elab.async false
set_option linter.all false
set_option maxRecDepth 100000
set_option maxHeartbeats 1000000
/-! Fx part 0: new tuples, held as they are made; dict(pairs) of such a tuple. -/
namespace FT
open PySem PySem.Spec PyProof.Rows L2 HT
/-- ints and texts alone, one at least: such may be a dict's key -/
def plK (xs : List V) : Bool := !xs.isEmpty && xs.all fun v => match v with
  | .int _ => true
  | .str _ => true
  | _ => false
def frzT (m : Bool) (xs : List V) : Bool := m || !plK xs
/-- how a new tuple is held: plainly, where it may be a key (and not m); else as the very object that it is, which has no dict of its own -/
def TObj (m : Bool) (xs : List V) (u : HO) : Prop := if frzT m xs = true then ∃ o : Obj, o.dict = none ∧ u = .frz o (.tup xs) else u = .tup xs
def mkT (m : Bool) (o : Obj) (xs : List V) : HO := if frzT m xs = true then .frz o (.tup xs) else .tup xs
theorem mkT_obj {m : Bool} {o : Obj} {xs : List V} (h : o.dict = none) : TObj m xs (mkT m o xs) := by
  unfold TObj mkT
  cases frzT m xs
  · rfl
  · exact ⟨o, h, rfl⟩
theorem mkT_ok {P : Program} {w : World} {H : Hp} {h : Heap} {a : Addr} {m : Bool} {o : Obj} {xs : List V} {its : List Value} {n : Nat} (e : h.get? a = some o) (hc : o.cls = .type "tuple") (hd : o.data = .seq its.toArray n) (r : Vals xs its) (z : xs.length ≤ sizeLine) : ObjOk P w H h a (mkT m o xs) := by
  unfold mkT
  cases frzT m xs
  · exact ⟨z, its, r, ⟨o, e, hc, n, hd⟩⟩
  · exact ⟨e, z, its, r, ⟨o, e, hc, n, hd⟩⟩
section
variable {X : Cx} {es : List Expr} {t : TA} {pos : Pos}
def tTupM (m : Bool) (t : TA) : TE := fun σ H Q => t σ H fun xs H1 => xs.length ≤ sizeLine ∧ ∀ p u, H1 p = none → TObj m xs u → Q (.ref p) (upd H1 p u)
theorem pe_tupM {m : Bool} {x1} (h : PA X es t) : PE X (.Tuple es x1 pos) (tTupM m t) := by
  refine ⟨fun pins s σ H Q I hq => ?_⟩
  refine wpAny_Tuple_spliced (thn (h.run pos pins s σ H _ I hq) fun us s1 ⟨xs, H1, I1, r, z, q⟩ => ⟨by rw [← r.length]; exact z, ?_⟩)
  have hf : H1 s1.heap.objs.size = none := I1.hok.fresh (Nat.le_refl _)
  refine ⟨.ref s1.heap.objs.size, _, I1.laid (t' := s1.toks) (o := mkT m { cls := .type "tuple", data := .seq us.toArray } xs) (fun b u e => Heap.get?_push_of_some _ e) (Nat.le_refl _) ?_, rfl, q _ _ hf (mkT_obj rfl)⟩
  exact mkT_ok (Heap.get?_push_size _ rfl) rfl rfl r z
theorem call_tupleM {m : Bool} : CallR X (.type "tuple") (fun xs H Q => ∃ p ys, xs = [.ref p] ∧ ((SqL X.K H p ys ∧ ∀ l u, H l = none → TObj m ys u → Q (.ref l) (upd H l u)) ∨ (SqT X.K H p ys ∧ Q (.ref p) H))) := by
  intro pins s σ H xs us Q I r h
  obtain ⟨p, ys, rfl, h⟩ := h
  obtain ⟨u, rfl, rx⟩ := vals1 r
  cases rx
  rcases h with ⟨hq, q⟩ | ⟨hq, q⟩
  · obtain ⟨its, r', pl, hz⟩ := I.list hq
    have hlen := r'.length
    refine call_tuple_list pl.isList (fun h' kp => ?_) (by simp only [List.size_toArray] <;> omega)
    have I1 : Inv X pins σ H { s with heap := h' } := I.kept (t' := s.toks) kp
    exact ⟨.ref h'.objs.size, _, I1.laid (t' := s.toks) (o := mkT m { cls := .type "tuple", data := .seq its.toArray } ys) (fun b o e => Heap.get?_push_of_some _ e) (Nat.le_refl _) (mkT_ok (Heap.get?_push_size _ rfl) rfl rfl r' hz), rfl, q _ _ (I1.hok.fresh (Nat.le_refl _)) (mkT_obj rfl)⟩
  · obtain ⟨its, r', pl, hz⟩ := I.tuple hq
    exact call_tuple_same pl ⟨.ref p, H, I, rfl, q⟩
def rCatM (m : Bool) (K : PySem.W.Frag) : R2 := fun x y H Q => ∃ a b xs ys, x = .ref a ∧ y = .ref b ∧ SqT K H a xs ∧ SqT K H b ys ∧ xs.length + ys.length ≤ sizeLine ∧
  (xs = [] → Q (.ref b) H) ∧ (xs ≠ [] → ys = [] → Q (.ref a) H) ∧ (xs ≠ [] → ys ≠ [] → ∀ p u, H p = none → TObj m (xs ++ ys) u → Q (.ref p) (upd H p u))
theorem op_catM {m : Bool} : OpR X (binaryOp .Add) (rCatM m X.K) := by
  intro pins s σ H x y v u Q I rx ry h
  obtain ⟨a, b, xs, ys, rfl, rfl, ha, hb, hz, q0, q1, q2⟩ := h
  by_cases hx : xs = []
  · exact op_catA pins s σ H _ _ v u Q I rx ry ⟨a, b, xs, ys, rfl, rfl, ha, hb, hz, q0, fun n => absurd hx n, fun n => absurd hx n⟩
  · cases rx
    cases ry
    obtain ⟨its, r1, p1, _⟩ := I.tuple ha
    obtain ⟨its2, r2, p2, _⟩ := I.tuple hb
    refine HT.cat_tup p1 p2 (fun z => hx (r1.nil_iff.mp z)) (fun z => ⟨.ref a, H, I, rfl, q1 hx (r2.nil_iff.mp z)⟩) (fun z => ?_) (by rw [← r1.length, ← r2.length]; exact hz)
    refine ⟨.ref s.heap.objs.size, _, I.laid (t' := s.toks) (o := mkT m { cls := .type "tuple", data := .seq (its ++ its2).toArray } (xs ++ ys)) (fun b ob q => Heap.get?_push_of_some _ q) (Nat.le_refl _) ?_, rfl, q2 hx (fun w => z (r2.nil_iff.mpr w)) _ _ (I.hok.fresh (Nat.le_refl _)) (mkT_obj rfl)⟩
    exact mkT_ok (Heap.get?_push_size _ rfl) rfl rfl (r1.append r2) (by rw [List.length_append]; exact hz)
def rSlM (m : Bool) (K : PySem.W.Frag) : V → Option Int → Option Int → Hp → VK → Prop := fun x lo hi H Q => ∃ a xs, x = .ref a ∧ SqT K H a xs ∧
  (HT.sIx xs.length 0 lo = 0 ∧ HT.sIx xs.length xs.length hi = xs.length → Q (.ref a) H) ∧ (¬ (HT.sIx xs.length 0 lo = 0 ∧ HT.sIx xs.length xs.length hi = xs.length) → ∀ p u, H p = none → TObj m (cutV xs lo hi) u → Q (.ref p) (upd H p u))
theorem sl_tupM {m : Bool} : SlR X (rSlM m X.K) := by
  intro pins s σ H x v vl vu lo hi sl Q I rx hs pl pu h
  obtain ⟨a, xs, rfl, hx, q1, q2⟩ := h
  by_cases hw : HT.sIx xs.length 0 lo = 0 ∧ HT.sIx xs.length xs.length hi = xs.length
  · exact sl_tupA pins s σ H _ v vl vu lo hi sl Q I rx hs pl pu ⟨a, xs, rfl, hx, q1, fun n => absurd hw n⟩
  · cases rx
    obtain ⟨its, r, ht, hz⟩ := I.tuple hx
    have hlen : its.toArray.size = xs.length := by rw [List.size_toArray]; exact r.length.symm
    refine ⟨"tuple", _, PyProof.Rows.slot_tuple_getitem.lookup, ht.typeIs, ?_⟩
    refine HT.getItem_tuple_cut ht hs pl pu (by rw [hlen]; exact hw) ?_ (by rw [hlen]; exact hz)
    rw [hlen]
    refine ⟨.ref s.heap.objs.size, _, I.laid (t' := s.toks) (o := mkT m _ (cutV xs lo hi)) (fun b ob q => Heap.get?_push_of_some _ q) (Nat.le_refl _) (mkT_ok (Heap.get?_push_size _ rfl) rfl rfl ((r.drop (HT.sIx xs.length 0 lo)).take (HT.sIx xs.length xs.length hi - HT.sIx xs.length 0 lo)) (Nat.le_trans (cutV_length xs lo hi) hz)), rfl, q2 hw _ _ (I.hok.fresh (Nat.le_refl _)) (mkT_obj rfl)⟩
end
end FT

set_option Elab.async false
set_option linter.all false
set_option maxRecDepth 100000
/-! Fx: pure readings over the hand layer. Part 1: values, the store, the state, the judgements. -/
namespace Fx
open PySem L2

/-- pure values -/
inductive PV where
  | non | bl (b : Bool) | int (i : Int) | str (x : Str)
  | tup (xs : List PV) | lst (xs : List PV)
  | dk (ks : List Key) (vs : List PV) | dt (ks : List (List Key)) (vs : List PV)
  | loc (n : Nat)
  | scr (ns : List Int)

/-- what stands in a mutable object -/
inductive Cell where
  | lst (xs : List PV)
  | dk (kvs : List (Key × PV)) | dt (kvs : List (List Key × PV))
  | ins (C : Str) (fs : List (Str × PV))

abbrev Store := List Cell
/-- a slot: nothing, a value, a mutable object of the frame's own -/
inductive SV where
  | no | val (v : PV) | own (c : Cell)
abbrev Slots := List SV

/-- an exception: its class, its one field -/
structure PX where
  cls : Str
  fld : Option PV

inductive Res (α : Type) where
  | ok (a : α) (L : Store)
  | err (x : PX) (L : Store)

abbrev FF (α : Type) := Slots → Store → Option (Res α)
abbrev EF := FF PV
abbrev BF := FF Bool
abbrev AF := FF (List PV)
abbrev CF := FF Cell

/-- how a block ends -/
inductive Flw where
  | nx (s : Slots) | rt (v : PV) | bk (s : Slots) | ct (s : Slots)
abbrev SF := FF Flw

/-- what the text has -/
structure Gx where
  K : PySem.W.Frag
  mg : Str → Option Value
  kt : Bool

/-- a tuple of the written part -/
def KTup (K : PySem.W.Frag) (a : Addr) (xs : List V) : Prop :=
  ∃ (o : Obj) (its : Array Value) (n : Nat), K.lookup a = some o ∧ o.cls = .type "tuple" ∧ o.dict = none ∧ o.data = .seq its n ∧ its.size ≤ sizeLine ∧ Vals xs its.toList

/-- a list of the written part -/
def KLst (K : PySem.W.Frag) (a : Addr) (xs : List V) : Prop :=
  ∃ (o : Obj) (its : Array Value) (n : Nat), K.lookup a = some o ∧ o.cls = .type "list" ∧ o.dict = none ∧ o.data = .seq its n ∧ its.size ≤ sizeLine ∧ Vals xs its.toList

/-- a tuple's object: held plainly where it may be a dict's key and no written tuples occur (kt); else one that has no dict of its own -/
def TupAt (G : Gx) (ρ : List Addr) (H : Hp) (a : Addr) (vs : List V) : Prop := (FT.frzT G.kt vs = false ∧ H a = some (.tup vs)) ∨ (FT.frzT G.kt vs = true ∧ ((a ∉ ρ ∧ ∃ o : Obj, o.dict = none ∧ H a = some (.frz o (.tup vs))) ∨ (G.kt = true ∧ KTup G.K a vs)))
mutual
def Rep (G : Gx) (ρ : List Addr) (H : Hp) : PV → V → Prop
  | .non, v => v = .non
  | .bl b, v => v = .bl b
  | .int i, v => v = .int i
  | .str x, v => v = .str x
  | .tup xs, v => ∃ a vs, v = .ref a ∧ TupAt G ρ H a vs ∧ Reps G ρ H xs vs
  | .lst xs, v => ∃ a o vs, v = .ref a ∧ a ∉ ρ ∧ H a = some (.frz o (.lst vs)) ∧ Reps G ρ H xs vs
  | .dk ks xs, v => ∃ a o l, v = .ref a ∧ a ∉ ρ ∧ H a = some (.frz o (.dK l)) ∧ l.map (·.1) = ks ∧ Reps G ρ H xs (l.map (·.2))
  | .dt ks xs, v => ∃ a o l, v = .ref a ∧ a ∉ ρ ∧ H a = some (.frz o (.dT l)) ∧ l.map (·.1) = ks ∧ Reps G ρ H xs (l.map (·.2))
  | .loc n, v => ∃ a, v = .ref a ∧ ρ[n]? = some a
  | .scr ns, v => ∃ a, v = .ref a ∧ ((a ∉ ρ ∧ ∃ o, H a = some (.frz o (.lst (ns.map V.int)))) ∨ KLst G.K a (ns.map V.int))
def Reps (G : Gx) (ρ : List Addr) (H : Hp) : List PV → List V → Prop
  | [], vs => vs = []
  | x :: xs, vs => ∃ v r, vs = v :: r ∧ Rep G ρ H x v ∧ Reps G ρ H xs r
end

/-- a mutable object's content -/
def CRep (G : Gx) (ρ : List Addr) (H : Hp) (a : Addr) : Cell → Prop
  | .lst xs => ∃ vs, H a = some (.lst vs) ∧ Reps G ρ H xs vs
  | .dk kvs => ∃ l, H a = some (.dK l) ∧ l.map (·.1) = kvs.map (·.1) ∧ Reps G ρ H (kvs.map (·.2)) (l.map (·.2))
  | .dt kvs => ∃ l, H a = some (.dT l) ∧ l.map (·.1) = kvs.map (·.1) ∧ Reps G ρ H (kvs.map (·.2)) (l.map (·.2))
  | .ins C fs => ∃ c dx l, H a = some (.ins c dx l) ∧ G.mg C = some (.ref c) ∧ l.map (·.1) = fs.map (·.1) ∧ Reps G ρ H (fs.map (·.2)) (l.map (·.2))

/-- what stays whatever is done: what cannot change -/
structure Stb (ρ ρ' : List Addr) (H H' : Hp) : Prop where
  pre : ∃ new, ρ' = ρ ++ new ∧ ∀ a ∈ new, H a = none
  there : ∀ a o, H a = some o → ∃ o', H' a = some o'
  tup : ∀ a xs, H a = some (.tup xs) → H' a = some (.tup xs)
  frz : ∀ a o u, a ∉ ρ → H a = some (.frz o u) → H' a = some (.frz o u)
/-- behind an expression, a call: all but the store's objects stays -/
structure Ext (ρ ρ' : List Addr) (H H' : Hp) : Prop extends Stb ρ ρ' H H' where
  keep : ∀ a o, a ∉ ρ → H a = some o → H' a = some o

theorem Stb.refl {ρ : List Addr} {H : Hp} : Stb ρ ρ H H := ⟨⟨[], by simp, by simp⟩, fun _ o e => ⟨o, e⟩, fun _ _ e => e, fun _ _ _ _ e => e⟩
theorem Ext.refl {ρ : List Addr} {H : Hp} : Ext ρ ρ H H := ⟨Stb.refl, fun _ _ _ e => e⟩
theorem Stb.notin {ρ ρ' : List Addr} {H H' : Hp} (e : Stb ρ ρ' H H') {a : Addr} {o : HO} (h : a ∉ ρ) (ha : H a = some o) : a ∉ ρ' := by
  obtain ⟨new, rfl, hn⟩ := e.pre
  intro hm
  rcases List.mem_append.mp hm with h1 | h1
  · exact h h1
  · rw [hn a h1] at ha; cases ha
theorem Stb.trans {ρ ρ1 ρ2 : List Addr} {H H1 H2 : Hp} (e : Stb ρ ρ1 H H1) (f : Stb ρ1 ρ2 H1 H2) : Stb ρ ρ2 H H2 := by
  refine ⟨?_, fun a o h => ?_, fun a xs h => f.tup a xs (e.tup a xs h), fun a o u hn h => f.frz a o u (e.notin hn h) (e.frz a o u hn h)⟩
  · obtain ⟨n1, rfl, h1⟩ := e.pre
    obtain ⟨n2, rfl, h2⟩ := f.pre
    refine ⟨n1 ++ n2, by simp, fun a ha => ?_⟩
    rcases List.mem_append.mp ha with h | h
    · exact h1 a h
    · cases q : H a with
      | none => rfl
      | some o =>
        obtain ⟨o', e'⟩ := e.there a o q
        rw [h2 a h] at e'; cases e'
  · obtain ⟨o', h'⟩ := e.there a o h
    exact f.there a o' h'
theorem Ext.trans {ρ ρ1 ρ2 : List Addr} {H H1 H2 : Hp} (e : Ext ρ ρ1 H H1) (f : Ext ρ1 ρ2 H1 H2) : Ext ρ ρ2 H H2 :=
  ⟨e.toStb.trans f.toStb, fun a o hn h => f.keep a o (e.notin hn h) (e.keep a o hn h)⟩
/-- a new object -/
theorem Ext.new {ρ : List Addr} {H : Hp} {p : Addr} {u : HO} (hp : H p = none) : Ext ρ ρ H (upd H p u) := by
  have k : ∀ a o, H a = some o → upd H p u a = some o := fun a o h => by rw [upd_ne (ne_of_none h hp)]; exact h
  exact ⟨⟨⟨[], by simp, by simp⟩, fun a o h => ⟨o, k a o h⟩, fun a xs h => k _ _ h, fun a o u _ h => k _ _ h⟩, fun a o _ h => k _ _ h⟩
theorem Ext.same {ρ : List Addr} {H H' : Hp} (k : ∀ a o, H a = some o → H' a = some o) : Ext ρ ρ H H' :=
  ⟨⟨⟨[], by simp, by simp⟩, fun a o h => ⟨o, k a o h⟩, fun a xs h => k _ _ h, fun a o u _ h => k _ _ h⟩, fun a o _ h => k _ _ h⟩

/-- what the values lean on -/
structure Stb0 (ρ ρ' : List Addr) (H H' : Hp) : Prop where
  pre : ∃ new, ρ' = ρ ++ new
  tup : ∀ a xs, H a = some (.tup xs) → H' a = some (.tup xs)
  frz : ∀ a o u, a ∉ ρ → H a = some (.frz o u) → a ∉ ρ' ∧ H' a = some (.frz o u)
theorem Stb.to0 {ρ ρ' : List Addr} {H H' : Hp} (e : Stb ρ ρ' H H') : Stb0 ρ ρ' H H' := ⟨let ⟨n, h, _⟩ := e.pre; ⟨n, h⟩, e.tup, fun a o u hn h => ⟨e.notin hn h, e.frz a o u hn h⟩⟩
/-- a mutable object comes into the store -/
theorem Stb0.grow {ρ : List Addr} {H : Hp} {p : Addr} {w : HO} (h : H p = some w) (mu : Mut (some w)) : Stb0 ρ (ρ ++ [p]) H H := by
  refine ⟨⟨[p], rfl⟩, fun _ _ e => e, fun a o u hn e => ⟨fun z => ?_, e⟩⟩
  rcases List.mem_append.mp z with q | q
  · exact hn q
  · obtain rfl : a = p := by simpa using q
    rw [h] at e; cases e; exact mu
theorem TupAt.mono0 {G : Gx} {ρ ρ' : List Addr} {H H' : Hp} {a : Addr} {vs : List V} (e : Stb0 ρ ρ' H H') (h : TupAt G ρ H a vs) : TupAt G ρ' H' a vs := by
  rcases h with ⟨k, h⟩ | ⟨k, ⟨hn, o, hd, h⟩ | h⟩
  · exact .inl ⟨k, e.tup a vs h⟩
  · exact .inr ⟨k, .inl ⟨(e.frz _ _ _ hn h).1, o, hd, (e.frz _ _ _ hn h).2⟩⟩
  · exact .inr ⟨k, .inr h⟩
mutual
theorem Rep.mono0 {G : Gx} {ρ ρ' : List Addr} {H H' : Hp} (e : Stb0 ρ ρ' H H') : ∀ {x : PV} {v : V}, Rep G ρ H x v → Rep G ρ' H' x v
  | .non, v, h => h
  | .bl b, v, h => h
  | .int i, v, h => h
  | .str x, v, h => h
  | .tup xs, v, h => by
    obtain ⟨a, vs, rfl, h1, h2⟩ := h
    exact ⟨a, vs, rfl, h1.mono0 e, Reps.mono0 e h2⟩
  | .lst xs, v, h => by
    obtain ⟨a, o, vs, rfl, hn, h1, h2⟩ := h
    exact ⟨a, o, vs, rfl, (e.frz _ _ _ hn h1).1, (e.frz _ _ _ hn h1).2, Reps.mono0 e h2⟩
  | .dk ks xs, v, h => by
    obtain ⟨a, o, l, rfl, hn, h1, h2, h3⟩ := h
    exact ⟨a, o, l, rfl, (e.frz _ _ _ hn h1).1, (e.frz _ _ _ hn h1).2, h2, Reps.mono0 e h3⟩
  | .dt ks xs, v, h => by
    obtain ⟨a, o, l, rfl, hn, h1, h2, h3⟩ := h
    exact ⟨a, o, l, rfl, (e.frz _ _ _ hn h1).1, (e.frz _ _ _ hn h1).2, h2, Reps.mono0 e h3⟩
  | .loc n, v, h => by
    obtain ⟨a, rfl, h1⟩ := h
    obtain ⟨new, rfl⟩ := e.pre
    exact ⟨a, rfl, by rw [List.getElem?_append_left (List.getElem?_eq_some_iff.mp h1).1]; exact h1⟩
  | .scr ns, v, h => by
    obtain ⟨a, rfl, h1⟩ := h
    refine ⟨a, rfl, h1.imp (fun ⟨hn, o, h⟩ => ⟨(e.frz _ _ _ hn h).1, o, (e.frz _ _ _ hn h).2⟩) fun q => q⟩
theorem Reps.mono0 {G : Gx} {ρ ρ' : List Addr} {H H' : Hp} (e : Stb0 ρ ρ' H H') : ∀ {xs : List PV} {vs : List V}, Reps G ρ H xs vs → Reps G ρ' H' xs vs
  | [], vs, h => h
  | x :: xs, vs, h => by
    obtain ⟨v, r, rfl, h1, h2⟩ := h
    exact ⟨v, r, rfl, Rep.mono0 e h1, Reps.mono0 e h2⟩
end
theorem Rep.mono {G : Gx} {ρ ρ' : List Addr} {H H' : Hp} (e : Stb ρ ρ' H H') {x : PV} {v : V} (h : Rep G ρ H x v) : Rep G ρ' H' x v := h.mono0 e.to0
theorem Reps.mono {G : Gx} {ρ ρ' : List Addr} {H H' : Hp} (e : Stb ρ ρ' H H') {xs : List PV} {vs : List V} (h : Reps G ρ H xs vs) : Reps G ρ' H' xs vs := h.mono0 e.to0
theorem Reps.nil {G : Gx} {ρ : List Addr} {H : Hp} : Reps G ρ H [] [] := rfl
theorem Reps.cons {G : Gx} {ρ : List Addr} {H : Hp} {x : PV} {v : V} {xs : List PV} {vs : List V} (h : Rep G ρ H x v) (t : Reps G ρ H xs vs) : Reps G ρ H (x :: xs) (v :: vs) := ⟨v, vs, rfl, h, t⟩
theorem Reps.length {G : Gx} {ρ : List Addr} {H : Hp} : ∀ {xs : List PV} {vs : List V}, Reps G ρ H xs vs → xs.length = vs.length
  | [], _, h => by rw [show _ = [] from h]; rfl
  | x :: xs, vs, h => by
    obtain ⟨v, r, rfl, _, h2⟩ := h
    simp [Reps.length h2]
theorem Reps.get {G : Gx} {ρ : List Addr} {H : Hp} : ∀ {xs : List PV} {vs : List V} {i : Nat} {x : PV}, Reps G ρ H xs vs → xs[i]? = some x → ∃ v, vs[i]? = some v ∧ Rep G ρ H x v
  | [], _, _, _, _, e => by simp at e
  | x :: xs, vs, 0, y, h, e => by
    obtain ⟨v, r, rfl, h1, h2⟩ := h
    simp at e; subst e
    exact ⟨v, rfl, h1⟩
  | x :: xs, vs, i + 1, y, h, e => by
    obtain ⟨v, r, rfl, h1, h2⟩ := h
    obtain ⟨w, e1, e2⟩ := Reps.get (i := i) h2 (by simpa using e)
    exact ⟨w, by simpa using e1, e2⟩
theorem Reps.get' {G : Gx} {ρ : List Addr} {H : Hp} {xs : List PV} {vs : List V} {i : Nat} {v : V} (h : Reps G ρ H xs vs) (e : vs[i]? = some v) : ∃ x, xs[i]? = some x ∧ Rep G ρ H x v := by
  have hl := h.length
  have hi : i < xs.length := by rw [hl]; exact (List.getElem?_eq_some_iff.mp e).1
  obtain ⟨w, e1, r⟩ := h.get (i := i) (x := xs[i]) (by simp [hi])
  rw [e] at e1; cases e1
  exact ⟨xs[i], by simp [hi], r⟩
theorem Reps.append {G : Gx} {ρ : List Addr} {H : Hp} : ∀ {xs ys : List PV} {vs ws : List V}, Reps G ρ H xs vs → Reps G ρ H ys ws → Reps G ρ H (xs ++ ys) (vs ++ ws)
  | [], _, _, _, h, k => by rw [show _ = [] from h]; exact k
  | x :: xs, _, _, _, h, k => by
    obtain ⟨v, r, rfl, h1, h2⟩ := h
    exact ⟨v, _, rfl, h1, Reps.append h2 k⟩
theorem Reps.drop {G : Gx} {ρ : List Addr} {H : Hp} : ∀ (n : Nat) {xs : List PV} {vs : List V}, Reps G ρ H xs vs → Reps G ρ H (xs.drop n) (vs.drop n)
  | 0, _, _, h => h
  | n + 1, [], _, h => by rw [show _ = [] from h]; exact Reps.nil
  | n + 1, x :: xs, _, h => by
    obtain ⟨v, r, rfl, h1, h2⟩ := h
    exact Reps.drop n h2
theorem Reps.take {G : Gx} {ρ : List Addr} {H : Hp} : ∀ (n : Nat) {xs : List PV} {vs : List V}, Reps G ρ H xs vs → Reps G ρ H (xs.take n) (vs.take n)
  | 0, _, _, h => Reps.nil
  | n + 1, [], _, h => by rw [show _ = [] from h]; exact Reps.nil
  | n + 1, x :: xs, _, h => by
    obtain ⟨v, r, rfl, h1, h2⟩ := h
    exact ⟨v, _, rfl, h1, Reps.take n h2⟩
theorem Reps.set {G : Gx} {ρ : List Addr} {H : Hp} : ∀ {xs : List PV} {vs : List V} (i : Nat) {x : PV} {v : V}, Reps G ρ H xs vs → Rep G ρ H x v → Reps G ρ H (xs.set i x) (vs.set i v)
  | [], _, i, x, v, h, k => by rw [show _ = [] from h]; simpa using Reps.nil
  | y :: xs, _, 0, x, v, h, k => by
    obtain ⟨w, r, rfl, h1, h2⟩ := h
    exact ⟨v, r, rfl, k, h2⟩
  | y :: xs, _, i + 1, x, v, h, k => by
    obtain ⟨w, r, rfl, h1, h2⟩ := h
    exact ⟨w, _, rfl, h1, Reps.set i h2 k⟩
theorem Reps.reverse {G : Gx} {ρ : List Addr} {H : Hp} : ∀ {xs : List PV} {vs : List V}, Reps G ρ H xs vs → Reps G ρ H xs.reverse vs.reverse
  | [], _, h => by rw [show _ = [] from h]; exact Reps.nil
  | x :: xs, _, h => by
    obtain ⟨v, r, rfl, h1, h2⟩ := h
    simp only [List.reverse_cons]
    exact (Reps.reverse h2).append (.cons h1 .nil)

theorem CRep.mono0 {G : Gx} {ρ ρ' : List Addr} {H H' : Hp} {a : Addr} (e : Stb0 ρ ρ' H H') (k : H' a = H a) : ∀ {c : Cell}, CRep G ρ H a c → CRep G ρ' H' a c
  | .lst xs, h => by
    obtain ⟨vs, h1, h2⟩ := h
    exact ⟨vs, k.trans h1, h2.mono0 e⟩
  | .dk kvs, h => by
    obtain ⟨l, h1, h2, h3⟩ := h
    exact ⟨l, k.trans h1, h2, h3.mono0 e⟩
  | .dt kvs, h => by
    obtain ⟨l, h1, h2, h3⟩ := h
    exact ⟨l, k.trans h1, h2, h3.mono0 e⟩
  | .ins C fs, h => by
    obtain ⟨c, dx, l, h1, h2, h3, h4⟩ := h
    exact ⟨c, dx, l, k.trans h1, h2, h3, h4.mono0 e⟩
theorem CRep.mono {G : Gx} {ρ ρ' : List Addr} {H H' : Hp} {a : Addr} (e : Stb ρ ρ' H H') (k : H' a = H a) {c : Cell} (h : CRep G ρ H a c) : CRep G ρ' H' a c := h.mono0 e.to0 k
theorem CRep.there {G : Gx} {ρ : List Addr} {H : Hp} {a : Addr} : ∀ {c : Cell}, CRep G ρ H a c → ∃ o, H a = some o ∧ Mut (some o)
  | .lst xs, ⟨vs, h1, _⟩ => ⟨_, h1, trivial⟩
  | .dk kvs, ⟨l, h1, _⟩ => ⟨_, h1, trivial⟩
  | .dt kvs, ⟨l, h1, _⟩ => ⟨_, h1, trivial⟩
  | .ins C fs, ⟨c, dx, l, h1, _⟩ => ⟨_, h1, trivial⟩

/-- the store -/
structure Rst (G : Gx) (ρ : List Addr) (L : Store) (H : Hp) : Prop where
  len : ρ.length = L.length
  nd : ρ.Nodup
  cell : ∀ (n : Nat) c a, L[n]? = some c → ρ[n]? = some a → CRep G ρ H a c

theorem Rst.live {G : Gx} {ρ : List Addr} {L : Store} {H : Hp} (r : Rst G ρ L H) {a : Addr} (h : a ∈ ρ) : ∃ o, H a = some o ∧ Mut (some o) := by
  obtain ⟨n, hn, e⟩ := List.getElem_of_mem h
  have hl : n < L.length := by rw [← r.len]; exact hn
  exact (r.cell n L[n] a (by simp [hl]) (by simp [hn, e])).there
theorem Rst.fresh {G : Gx} {ρ : List Addr} {L : Store} {H : Hp} (r : Rst G ρ L H) {p : Addr} (hp : H p = none) : p ∉ ρ := fun h => by
  obtain ⟨o, e, _⟩ := r.live h
  rw [hp] at e; cases e
/-- all that stood stands -/
theorem Rst.keep {G : Gx} {ρ : List Addr} {L : Store} {H H' : Hp} (r : Rst G ρ L H) (e : Stb ρ ρ H H') (k : ∀ a ∈ ρ, H' a = H a) : Rst G ρ L H' :=
  ⟨r.len, r.nd, fun n c a hc ha => (r.cell n c a hc ha).mono e (k a (List.mem_of_getElem? ha))⟩
theorem Rst.new {G : Gx} {ρ : List Addr} {L : Store} {H : Hp} {p : Addr} {u : HO} (r : Rst G ρ L H) (hp : H p = none) : Rst G ρ L (upd H p u) :=
  r.keep (Ext.new hp).toStb fun a ha => upd_ne (fun z => r.fresh hp (z ▸ ha))

/-- the slots -/
structure Rsl (G : Gx) (H0 : Hp) (ρ : List Addr) (s : Slots) (σ : St) (H : Hp) (β : Nat → Addr) : Prop where
  len : s.length = σ.length
  val : ∀ (i : Nat) v, s[i]? = some (.val v) → ∃ u, σ[i]? = some (some u) ∧ Rep G ρ H v u
  own : ∀ (i : Nat) c, s[i]? = some (.own c) → σ[i]? = some (some (.ref (β i))) ∧ CRep G ρ H (β i) c ∧ β i ∉ ρ ∧ H0 (β i) = none
  inj : ∀ (i j : Nat) c d, s[i]? = some (.own c) → s[j]? = some (.own d) → β i = β j → i = j

theorem Rsl.ext {G : Gx} {H0 : Hp} {ρ ρ' : List Addr} {s : Slots} {σ : St} {H H' : Hp} {β : Nat → Addr} (r : Rsl G H0 ρ s σ H β) (e : Ext ρ ρ' H H') : Rsl G H0 ρ' s σ H' β := by
  refine ⟨r.len, fun i v h => ?_, fun i c h => ?_, r.inj⟩
  · obtain ⟨u, h1, h2⟩ := r.val i v h
    exact ⟨u, h1, h2.mono e.toStb⟩
  · obtain ⟨h1, h2, h3, h4⟩ := r.own i c h
    obtain ⟨o, ho, _⟩ := h2.there
    exact ⟨h1, h2.mono e.toStb ((e.keep _ _ h3 ho).trans ho.symm), e.notin h3 ho, h4⟩

/-- the whole state: the entry's addresses and heap, the store, the slots -/
structure RR (G : Gx) (r0 : List Addr) (H0 : Hp) (ρ : List Addr) (L : Store) (s : Slots) (σ : St) (H : Hp) : Prop where
  st : Rst G ρ L H
  sl : ∃ β, Rsl G H0 ρ s σ H β
  ext : Ext r0 ρ H0 H

theorem RR.go {G : Gx} {r0 ρ ρ' : List Addr} {H0 H H' : Hp} {L L' : Store} {s : Slots} {σ : St} (r : RR G r0 H0 ρ L s σ H) (e : Ext ρ ρ' H H') (t : Rst G ρ' L' H') : RR G r0 H0 ρ' L' s σ H' :=
  ⟨t, let ⟨β, q⟩ := r.sl; ⟨β, q.ext e⟩, r.ext.trans e⟩
theorem RR.new {G : Gx} {r0 ρ : List Addr} {H0 H : Hp} {L : Store} {s : Slots} {σ : St} {p : Addr} {u : HO} (r : RR G r0 H0 ρ L s σ H) (hp : H p = none) : RR G r0 H0 ρ L s σ (upd H p u) :=
  r.go (Ext.new hp) (r.st.new hp)

/-- how an exception is seen -/
def XRep (G : Gx) (ρ : List Addr) (H : Hp) (x : PX) (cls : Value) (d : Option Addr) : Prop :=
  G.mg x.cls = some cls ∧ match x.fld with
  | none => d = none
  | some v => ∃ a u, d = some a ∧ H a = some (.xd [("amount", u)]) ∧ Rep G ρ H v u

/-! ### readings -/
/-- what an answer is, from the heap ahead, the addresses and the heap behind -/
abbrev RT (α β : Type) := Hp → List Addr → Hp → α → β → Prop
class RM {α β : Type} (R : RT α β) : Prop where
  mono : ∀ {ρ ρ1 ρ' : List Addr} {H H1 H' : Hp} {a : α} {b : β}, Ext ρ ρ1 H H1 → R H1 ρ' H' a b → R H ρ' H' a b
def RE (G : Gx) : RT PV V := fun _ => Rep G
def RA (G : Gx) : RT (List PV) (List V) := fun _ => Reps G
def RB : RT Bool Bool := fun _ _ _ a b => a = b
/-- a new mutable object, known by nobody else -/
def RN (G : Gx) : RT Cell V := fun H ρ' H' c v => ∃ a, v = .ref a ∧ a ∉ ρ' ∧ H a = none ∧ CRep G ρ' H' a c
/-- a thing that is asked: a value, or a mutable object of the frame's own -/
inductive Hd where
  | v (x : PV) | o (c : Cell)
def HRep (G : Gx) (ρ : List Addr) (H : Hp) : Hd → V → Prop
  | .v x, u => Rep G ρ H x u
  | .o c, u => ∃ a, u = .ref a ∧ a ∉ ρ ∧ CRep G ρ H a c
def RH (G : Gx) : RT Hd V := fun _ => HRep G
instance {G : Gx} : RM (RE G) := ⟨fun _ h => h⟩
instance {G : Gx} : RM (RA G) := ⟨fun _ h => h⟩
instance : RM RB := ⟨fun _ h => h⟩
instance {G : Gx} : RM (RH G) := ⟨fun _ h => h⟩
theorem Stb.noneOf {ρ ρ1 : List Addr} {H H1 : Hp} (e : Stb ρ ρ1 H H1) {a : Addr} (h : H1 a = none) : H a = none := by
  cases q : H a with
  | none => rfl
  | some o =>
    obtain ⟨o', e'⟩ := e.there a o q
    rw [h] at e'; cases e'
instance {G : Gx} : RM (RN G) := ⟨fun e ⟨a, h1, h2, h3, h4⟩ => ⟨a, h1, h2, e.toStb.noneOf h3, h4⟩⟩
theorem HRep.ext {G : Gx} {ρ ρ' : List Addr} {H H' : Hp} (e : Ext ρ ρ' H H') : ∀ {x : Hd} {v : V}, HRep G ρ H x v → HRep G ρ' H' x v
  | .v x, v, h => Rep.mono e.toStb h
  | .o c, v, h => by
    obtain ⟨a, rfl, h1, h2⟩ := h
    obtain ⟨o, ho, _⟩ := h2.there
    exact ⟨a, rfl, e.notin h1 ho, h2.mono e.toStb ((e.keep _ _ h1 ho).trans ho.symm)⟩

def Ou {α β : Type} (G : Gx) (R : RT α β) (W : WX) (ρ : List Addr) (σ : St) (H : Hp) (Q : β → Hp → Prop) : Option (Res α) → Prop
  | some (.ok a L') => ∀ ρ' H' b, Ext ρ ρ' H H' → Rst G ρ' L' H' → R H ρ' H' a b → Q b H'
  | some (.err x L') => ∀ ρ' H' cls d, Ext ρ ρ' H H' → Rst G ρ' L' H' → XRep G ρ' H' x cls d → W cls d σ H'
  | none => False
theorem Ou.ext {α β : Type} {G : Gx} {R : RT α β} [m : RM R] {W : WX} {ρ ρ1 : List Addr} {σ : St} {H H1 : Hp} {Q : β → Hp → Prop} {r : Option (Res α)} (h : Ou G R W ρ σ H Q r) (e : Ext ρ ρ1 H H1) : Ou G R W ρ1 σ H1 Q r := by
  cases r with
  | none => exact h
  | some r =>
    cases r with
    | ok a L => exact fun ρ' H' b f s q => h ρ' H' b (e.trans f) s (m.mono e q)
    | err x L => exact fun ρ' H' c d f s q => h ρ' H' c d (e.trans f) s q
theorem Ou.mono {α β : Type} {G : Gx} {R : RT α β} {W : WX} {ρ : List Addr} {σ : St} {H : Hp} {Q Q' : β → Hp → Prop} {r : Option (Res α)} (h : Ou G R W ρ σ H Q r) (k : ∀ b H', Q b H' → Q' b H') : Ou G R W ρ σ H Q' r := by
  cases r with
  | none => exact h
  | some r =>
    cases r with
    | ok a L => exact fun ρ' H' b f s q => k _ _ (h ρ' H' b f s q)
    | err x L => exact h

/-- one behind the other -/
def bnd {α β : Type} (r : Option (Res α)) (k : α → Store → Option (Res β)) : Option (Res β) :=
  match r with
  | some (.ok a L) => k a L
  | some (.err x L) => some (.err x L)
  | none => none
theorem bnd_ok {α β : Type} {a : α} {L : Store} {k : α → Store → Option (Res β)} : bnd (some (.ok a L)) k = k a L := rfl
theorem bnd_err {α β : Type} {x : PX} {L : Store} {k : α → Store → Option (Res β)} : bnd (some (.err x L) : Option (Res α)) k = some (.err x L) := rfl
theorem bnd_none {α β : Type} {k : α → Store → Option (Res β)} : bnd (none : Option (Res α)) k = none := rfl
/-- an answer without a step of the store -/
def ret {α : Type} (o : Option α) (L : Store) : Option (Res α) := o.map fun a => .ok a L
theorem ret_some {α : Type} {a : α} {L : Store} : ret (some a) L = some (.ok a L) := rfl
theorem ret_none {α : Type} {L : Store} : ret (none : Option α) L = none := rfl

theorem Ou.bind {α β γ δ : Type} {G : Gx} {R : RT α β} {R' : RT γ δ} [RM R'] {W : WX} {ρ : List Addr} {σ : St} {H : Hp} {Q : β → Hp → Prop} {Q' : δ → Hp → Prop}
    {r : Option (Res α)} {k : α → Store → Option (Res γ)} (h : Ou G R' W ρ σ H Q' (bnd r k))
    (go : ∀ a L1 ρ1 H1 b, r = some (.ok a L1) → Ext ρ ρ1 H H1 → Rst G ρ1 L1 H1 → R H ρ1 H1 a b → Ou G R' W ρ1 σ H1 Q' (k a L1) → Q b H1) : Ou G R W ρ σ H Q r := by
  cases r with
  | none => exact h
  | some r =>
    cases r with
    | ok a L => exact fun ρ' H' b f s q => go a L ρ' H' b rfl f s q (Ou.ext h f)
    | err x L => exact h
theorem Ou.ret {α β : Type} {G : Gx} {R : RT α β} {W : WX} {ρ : List Addr} {σ : St} {H : Hp} {Q : β → Hp → Prop} {o : Option α} {L : Store} (h : Ou G R W ρ σ H Q (ret o L)) :
    ∃ a, o = some a ∧ ∀ ρ' H' b, Ext ρ ρ' H H' → Rst G ρ' L H' → R H ρ' H' a b → Q b H' := by
  cases o with
  | none => exact h.elim
  | some a => exact ⟨a, rfl, h⟩

/-- the reading of a function -/
def tOf {α β : Type} (G : Gx) (R : RT α β) (r0 : List Addr) (H0 : Hp) (W : WX) (f : FF α) : St → Hp → (β → Hp → Prop) → Prop :=
  fun σ H Q => ∃ ρ L s, RR G r0 H0 ρ L s σ H ∧ Ou G R W ρ σ H Q (f s L)
/-- the first of two -/
theorem tOf.first {α β γ δ : Type} {G : Gx} {R : RT α β} {R' : RT γ δ} [RM R'] {r0 : List Addr} {H0 : Hp} {W : WX} {f : FF α} {k : Slots → α → Store → Option (Res γ)} {σ : St} {H : Hp} {Q : β → Hp → Prop} {Q' : δ → Hp → Prop}
    (h : tOf G R' r0 H0 W (fun s L => bnd (f s L) (k s)) σ H Q')
    (go : ∀ ρ (L : Store) s a L1 ρ1 H1 b, RR G r0 H0 ρ1 L1 s σ H1 → Ext ρ ρ1 H H1 → R H ρ1 H1 a b → Ou G R' W ρ1 σ H1 Q' (k s a L1) → Q b H1) : tOf G R r0 H0 W f σ H Q := by
  obtain ⟨ρ, L, s, r, o⟩ := h
  exact ⟨ρ, L, s, r, Ou.bind o fun a L1 ρ1 H1 b _ e t q o' => go ρ L s a L1 ρ1 H1 b (r.go e t) e q o'⟩

abbrev gx (X : Cx) (kt : Bool) : Gx := ⟨X.K, X.mg, kt⟩
/-- the context of a derivation -/
structure FC where
  kt : Bool
  r0 : List Addr
  H0 : Hp
  W : WX
def EV (X : Cx) (c : FC) (e : Expr) (f : EF) : Prop := PE X e (tOf (gx X c.kt) (RE (gx X c.kt)) c.r0 c.H0 c.W f)
def AV (X : Cx) (c : FC) (es : List Expr) (f : AF) : Prop := PA X es (tOf (gx X c.kt) (RA (gx X c.kt)) c.r0 c.H0 c.W f)
def TV (X : Cx) (c : FC) (e : Expr) (f : BF) : Prop := PT X e (tOf (gx X c.kt) RB c.r0 c.H0 c.W f)
def WV (X : Cx) (c : FC) (e : Expr) (f : BF) : Prop := PW X e (tOf (gx X c.kt) RB c.r0 c.H0 c.W f)
def NV (X : Cx) (c : FC) (e : Expr) (f : CF) : Prop := PE X e (tOf (gx X c.kt) (RN (gx X c.kt)) c.r0 c.H0 c.W f)
def HV (X : Cx) (c : FC) (e : Expr) (f : FF Hd) : Prop := PE X e (tOf (gx X c.kt) (RH (gx X c.kt)) c.r0 c.H0 c.W f)

theorem pe_imp {X : Cx} {e : Expr} {t t' : TE} (h : PE X e t) (i : ∀ σ H Q, t' σ H Q → t σ H Q) : PE X e t' := ⟨fun pins s σ H Q I q => h.run pins s σ H Q I (i σ H Q q)⟩
theorem pa_imp {X : Cx} {es : List Expr} {t t' : TA} (h : PA X es t) (i : ∀ σ H Q, t' σ H Q → t σ H Q) : PA X es t' := ⟨fun pos pins s σ H Q I q => h.run pos pins s σ H Q I (i σ H Q q)⟩
theorem pt_imp {X : Cx} {e : Expr} {t t' : TT} (h : PT X e t) (i : ∀ σ H Q, t' σ H Q → t σ H Q) : PT X e t' := ⟨fun pins s σ H Q I q => h.run pins s σ H Q I (i σ H Q q)⟩
theorem pw_imp {X : Cx} {e : Expr} {t t' : TT} (h : PW X e t) (i : ∀ σ H Q, t' σ H Q → t σ H Q) : PW X e t' := ⟨fun wh pins s σ H Q I q => h.run wh pins s σ H Q I (i σ H Q q)⟩
theorem pi_imp {X : Cx} {tg e : Expr} {t t' : TI} (h : PI X tg e t) (i : ∀ σ H Q, t' σ H Q → t σ H Q) : PI X tg e t' := ⟨fun pins s σ H Q I q => h.run pins s σ H Q I (i σ H Q q)⟩
theorem pss_imp {X : Cx} {es : List Stmt} {t t' : TS} (h : PSs X es t) (i : ∀ D σ H, t' D σ H → t D σ H) : PSs X es t' := ⟨fun pins s σ H D I q => h.run pins s σ H D I (i D σ H q)⟩
theorem ps_imp {X : Cx} {es : Stmt} {t t' : TS} (h : PS X es t) (i : ∀ D σ H, t' D σ H → t D σ H) : PS X es t' := ⟨fun pins s σ H D I q => h.run pins s σ H D I (i D σ H q)⟩
end Fx

set_option Elab.async false
set_option linter.all false
set_option maxRecDepth 100000
set_option maxHeartbeats 1000000
/-! Fx part 2: expressions. -/
namespace Fx
open PySem L2

section
variable {X : Cx} {c : FC} {e a b : Expr} {f g : EF} {pos : Pos}

/-! ### names, constants -/
def eVar (i : Nat) : EF := fun s L => match s[i]? with
  | some (.val v) => some (.ok v L)
  | _ => none
def eC (v : PV) : EF := fun _ L => some (.ok v L)
theorem ev_var {i : Nat} {x : Str} (hN : X.N[i]? = some x) (hv : Vis X.env.scope x) (hd : (x == ("__debug__" : Str)) = false := by decide) (hcd : (x == ("__classdict__" : Str)) = false := by decide) : EV X c (.Name x pos) (eVar i) := by
  refine pe_imp (pe_var hN hv hd hcd) fun σ H Q h => ?_
  obtain ⟨ρ, L, s, r, o⟩ := h
  obtain ⟨β, q⟩ := r.sl
  unfold eVar at o
  split at o
  · rename_i v e1
    obtain ⟨u, h1, h2⟩ := q.val i v e1
    exact ⟨u, h1, o ρ H u Ext.refl r.st h2⟩
  · exact o.elim
theorem ev_const {v : PV} {w : V} (hp : PE X e (tC w)) (hr : ∀ ρ H, Rep (gx X c.kt) ρ H v w) : EV X c e (eC v) := by
  refine pe_imp hp fun σ H Q h => ?_
  obtain ⟨ρ, L, s, r, o⟩ := h
  exact o ρ H w Ext.refl r.st (hr ρ H)
theorem ev_int {i j} : EV X c (.Constant (.int i) j pos) (eC (.int i)) := ev_const pe_int fun _ _ => rfl
theorem ev_bl {i j} : EV X c (.Constant (.bool i) j pos) (eC (.bl i)) := ev_const pe_bl fun _ _ => rfl
theorem ev_non {j} : EV X c (.Constant .none j pos) (eC .non) := ev_const pe_non fun _ _ => rfl
theorem ev_str {x j} : EV X c (.Constant (.str x) j pos) (eC (.str x)) := ev_const pe_str fun _ _ => rfl
theorem ev_glI {x : Str} {i : Int} {t : Tok} (hg : Gl X x) (hm : X.mg x = some (.int i t)) (hd : (x == ("__debug__" : Str)) = false := by decide) : EV X c (.Name x pos) (eC (.int i)) := ev_const (w := .int i) (pe_glob hg hm (show RelV (.int i) (.int i t) from ⟨t, rfl⟩) hd) fun _ _ => rfl
theorem ev_glS {x y : Str} {t : Tok} (hg : Gl X x) (hm : X.mg x = some (.str y t)) (hd : (x == ("__debug__" : Str)) = false := by decide) : EV X c (.Name x pos) (eC (.str y)) := ev_const (w := .str y) (pe_glob hg hm (show RelV (.str y) (.str y t) from ⟨t, rfl⟩) hd) fun _ _ => rfl
theorem reps_ints {G : Gx} {ρ : List Addr} {H : Hp} : ∀ ns : List Int, Reps G ρ H (ns.map PV.int) (ns.map V.int)
  | [] => rfl
  | n :: ns => ⟨_, _, rfl, rfl, reps_ints ns⟩
/-- a tuple of ints of the module's top -/
theorem ev_glT {x : Str} {p : Addr} {ns : List Int} (hg : Gl X x) (hm : X.mg x = some (.ref p)) (hk : KTup X.K p (ns.map V.int)) (ht : c.kt = true) (hd : (x == ("__debug__" : Str)) = false := by decide) : EV X c (.Name x pos) (eC (.tup (ns.map PV.int))) :=
  ev_const (w := .ref p) (pe_glob hg hm (show RelV (.ref p) (.ref p) from rfl) hd) fun _ _ => ⟨p, _, rfl, .inr ⟨by rw [show (gx X c.kt).kt = true from ht]; rfl, .inr ⟨ht, hk⟩⟩, reps_ints ns⟩

/-! ### what is asked -/
def hE (f : EF) : FF Hd := fun s L => bnd (f s L) fun v L1 => some (.ok (.v v) L1)
def hOwn (i : Nat) : FF Hd := fun s L => match s[i]? with
  | some (.own c) => some (.ok (.o c) L)
  | _ => none
theorem hv_e (h : EV X c e f) : HV X c e (hE f) := by
  refine pe_imp h fun σ H Q q => ?_
  refine tOf.first (R := RE _) (k := fun _ v L1 => some (.ok (Hd.v v) L1)) q fun ρ L s v L1 ρ1 H1 u r e1 q1 o => ?_
  exact o ρ1 H1 u Ext.refl r.st q1
theorem hv_own {i : Nat} {x : Str} (hN : X.N[i]? = some x) (hv : Vis X.env.scope x) (hd : (x == ("__debug__" : Str)) = false := by decide) (hcd : (x == ("__classdict__" : Str)) = false := by decide) : HV X c (.Name x pos) (hOwn i) := by
  refine pe_imp (pe_var hN hv hd hcd) fun σ H Q h => ?_
  obtain ⟨ρ, L, s, r, o⟩ := h
  obtain ⟨β, q⟩ := r.sl
  unfold hOwn at o
  split at o
  · rename_i w e1
    obtain ⟨h1, h2, h3, _⟩ := q.own i w e1
    exact ⟨_, h1, o ρ H _ Ext.refl r.st ⟨_, rfl, h3, h2⟩⟩
  · exact o.elim

/-! ### two-place operators -/
/-- h answers what the rule r wants -/
def Op2 (G : Gx) (h : PV → PV → Option PV) (r : R2) : Prop := ∀ ρ L H x y z v w Q, Rst G ρ L H → Rep G ρ H x v → Rep G ρ H y w → h x y = some z →
  (∀ ρ' H' u, Ext ρ ρ' H H' → Rst G ρ' L H' → Rep G ρ' H' z u → Q u H') → r v w H Q
def eOp (h : PV → PV → Option PV) (f g : EF) : EF := fun s L => bnd (f s L) fun x L1 => bnd (g s L1) fun y L2 => ret (h x y) L2
theorem op_read {h : PV → PV → Option PV} {r : R2} (i : Op2 (gx X c.kt) h r) {σ : St} {H : Hp} {Q : VK} (q : tOf (gx X c.kt) (RE (gx X c.kt)) c.r0 c.H0 c.W (eOp h f g) σ H Q) :
    tOp r (tOf (gx X c.kt) (RE (gx X c.kt)) c.r0 c.H0 c.W f) (tOf (gx X c.kt) (RE (gx X c.kt)) c.r0 c.H0 c.W g) σ H Q := by
  refine tOf.first (R := RE _) (k := fun s x L1 => bnd (g s L1) fun y L2 => ret (h x y) L2) q fun ρ L s x L1 ρ1 H1 v R1 e1 q1 o1 => ?_
  refine ⟨ρ1, L1, s, R1, Ou.bind o1 fun y L2 ρ2 H2 w _ e2 t2 q2 o2 => ?_⟩
  obtain ⟨z, hz, k⟩ := Ou.ret o2
  exact i ρ2 L2 H2 x y z v w Q t2 (Rep.mono e2.toStb q1) q2 hz k
theorem ev_op {op : Operator} {h : PV → PV → Option PV} {r : R2} (ho : OpR X (binaryOp op) r) (i : Op2 (gx X c.kt) h r) (ha : EV X c a f) (hb : EV X c b g) : EV X c (.BinOp a op b pos) (eOp h f g) :=
  pe_imp (pe_op ho ha hb) fun _ _ _ q => op_read i q
theorem ev_cmp {op : CmpOp} {h : PV → PV → Option PV} {r : R2} (ho : OpR X (compareOp op) r) (i : Op2 (gx X c.kt) h r) (ha : EV X c a f) (hb : EV X c b g) (hm : behindInMarks op b = false) : EV X c (.Compare a [op] [b] pos) (eOp h f g) :=
  pe_imp (pe_cmpR ho ha hb hm) fun _ _ _ q => op_read i q

/-- a truth value of an answer -/
def bB (f : EF) : BF := fun s L => bnd (f s L) fun v L1 => match v with
  | .bl k => some (.ok k L1)
  | _ => none
theorem tOf.test {σ : St} {H : Hp} {Q : Bool → Hp → Prop} (q : tOf (gx X c.kt) RB c.r0 c.H0 c.W (bB f) σ H Q) : tOf (gx X c.kt) (RE (gx X c.kt)) c.r0 c.H0 c.W f σ H fun x H' => ∃ k, x = .bl k ∧ Q k H' := by
  refine tOf.first (R' := RB) (R := RE _) (k := fun _ v L1 => match v with
    | .bl k => some (.ok k L1)
    | _ => none) q fun ρ L s v L1 ρ1 H1 u r e1 q1 o => ?_
  split at o
  · rename_i k
    exact ⟨k, q1, o ρ1 H1 k Ext.refl r.st rfl⟩
  · exact o.elim
theorem tv_cmp {op : CmpOp} {h : PV → PV → Option PV} {r : R2} (ho : OpR X (compareOp op) r) (i : Op2 (gx X c.kt) h r) (ha : EV X c a f) (hb : EV X c b g) (hm : behindInMarks op b = false) : TV X c (.Compare a [op] [b] pos) (bB (eOp h f g)) :=
  pt_imp (pt_cmpR ho ha hb hm) fun _ _ _ q => op_read i q.test
/-- an expression that is no comparison, no and, or, not -/
theorem tv_e (h : EV X c e f) (he : ∀ whole, isTrue e X.env whole = (do let v ← whole; standAt e.pos; holding [v] (truthy v)) := by intro _; rfl) : TV X c e (bB f) :=
  pt_imp (pt_val h he) fun _ _ _ q => q.test

/-- a < b < c -/
def eChain (h h' : PV → PV → Option PV) (f g k : EF) : EF := fun s L => bnd (f s L) fun x L1 => bnd (g s L1) fun y L2 => match h x y with
  | some (.bl true) => bnd (k s L2) fun z L3 => ret (h' y z) L3
  | some (.bl false) => some (.ok (.bl false) L2)
  | _ => none
theorem chain_read {d : Expr} {k : EF} {h h' : PV → PV → Option PV} {r r' : R2} (i : Op2 (gx X c.kt) h r) (i' : Op2 (gx X c.kt) h' r') {σ : St} {H : Hp} {Q : VK} (q : tOf (gx X c.kt) (RE (gx X c.kt)) c.r0 c.H0 c.W (eChain h h' f g k) σ H Q) :
    tChain r r' (tOf (gx X c.kt) (RE (gx X c.kt)) c.r0 c.H0 c.W f) (tOf (gx X c.kt) (RE (gx X c.kt)) c.r0 c.H0 c.W g) (tOf (gx X c.kt) (RE (gx X c.kt)) c.r0 c.H0 c.W k) σ H Q := by
  obtain ⟨ρ, L, s, r, o⟩ := q
  refine ⟨ρ, L, s, r, Ou.bind o fun x L1 ρ1 H1 v _ e1 t1 q1 o1 => ⟨ρ1, L1, s, r.go e1 t1, Ou.bind o1 fun y L2 ρ2 H2 w _ e2 t2 q2 o2 => ?_⟩⟩
  have q1' := Rep.mono e2.toStb q1
  split at o2
  · rename_i hz
    refine i ρ2 L2 H2 x y _ v w _ t2 q1' q2 hz fun ρ3 H3 u e3 t3 q3 => ⟨true, q3, ?_⟩
    rw [if_pos rfl]
    refine ⟨ρ3, L2, s, (r.go (e1.trans e2) t2).go e3 t3, Ou.bind (o2.ext e3) fun z L4 ρ4 H4 u' _ e4 t4 q4 o4 => ?_⟩
    obtain ⟨z', hz', k'⟩ := Ou.ret o4
    exact i' ρ4 L4 H4 y z z' w u' Q t4 (Rep.mono (e3.trans e4).toStb q2) q4 hz' k'
  · rename_i hz
    refine i ρ2 L2 H2 x y _ v w _ t2 q1' q2 hz fun ρ3 H3 u e3 t3 q3 => ⟨false, q3, ?_⟩
    rw [if_neg Bool.false_ne_true]
    exact o2 ρ3 H3 _ e3 t3 rfl
  · exact o2.elim
theorem ev_chain {d : Expr} {k : EF} {op op' : CmpOp} {h h' : PV → PV → Option PV} {r r' : R2} (ho : OpR X (compareOp op) r) (ho' : OpR X (compareOp op') r') (i : Op2 (gx X c.kt) h r) (i' : Op2 (gx X c.kt) h' r') (ha : EV X c a f) (hb : EV X c b g) (hd : EV X c d k)
    (hm : lastMarks [op, op'] [b, d] = false := by with_unfolding_all rfl) : EV X c (.Compare a [op, op'] [b, d] pos) (eChain h h' f g k) :=
  pe_imp (pe_chain ho ho' ha hb hd hm) fun _ _ _ q => chain_read (d := d) i i' q
theorem tv_chain {d : Expr} {k : EF} {op op' : CmpOp} {h h' : PV → PV → Option PV} {r r' : R2} (ho : OpR X (compareOp op) r) (ho' : OpR X (compareOp op') r') (i : Op2 (gx X c.kt) h r) (i' : Op2 (gx X c.kt) h' r') (ha : EV X c a f) (hb : EV X c b g) (hd : EV X c d k)
    (hm : lastMarks [op, op'] [b, d] = false := by with_unfolding_all rfl) : TV X c (.Compare a [op, op'] [b, d] pos) (bB (eChain h h' f g k)) :=
  pt_imp (pt_chain ho ho' ha hb hd hm) fun _ _ _ q => chain_read (d := d) i i' q.test

/-! ### and, or, not, if .. else -/
variable {p q : BF} {rest : List Expr}
def bAnd (p q : BF) : BF := fun s L => bnd (p s L) fun k L1 => if k = true then q s L1 else some (.ok false L1)
def bOr (p q : BF) : BF := fun s L => bnd (p s L) fun k L1 => if k = true then some (.ok true L1) else q s L1
def bNot (p : BF) : BF := fun s L => bnd (p s L) fun k L1 => some (.ok (!k) L1)
theorem wv_and1 (ha : TV X c a p) : WV X c (.BoolOp .And [a] pos) p := pw_and1 ha
theorem wv_or1 (ha : TV X c a p) : WV X c (.BoolOp .Or [a] pos) p := pw_or1 ha
theorem wv_and (ha : TV X c a p) (hb : WV X c (.BoolOp .And (b :: rest) pos) q) : WV X c (.BoolOp .And (a :: b :: rest) pos) (bAnd p q) := by
  refine pw_imp (pw_and ha hb) fun σ H Q h => ?_
  refine tOf.first (R := RB) (R' := RB) (k := fun s k L1 => if k = true then q s L1 else some (.ok false L1)) h fun ρ L s k L1 ρ1 H1 u r e1 q1 o => ?_
  obtain rfl : k = u := q1
  cases k with
  | true => rw [if_pos rfl] at o ⊢; exact ⟨ρ1, L1, s, r, o⟩
  | false => rw [if_neg Bool.false_ne_true] at o ⊢; exact o ρ1 H1 _ Ext.refl r.st rfl
theorem wv_or (ha : TV X c a p) (hb : WV X c (.BoolOp .Or (b :: rest) pos) q) : WV X c (.BoolOp .Or (a :: b :: rest) pos) (bOr p q) := by
  refine pw_imp (pw_or ha hb) fun σ H Q h => ?_
  refine tOf.first (R := RB) (R' := RB) (k := fun s k L1 => if k = true then some (.ok true L1) else q s L1) h fun ρ L s k L1 ρ1 H1 u r e1 q1 o => ?_
  obtain rfl : k = u := q1
  cases k with
  | true => rw [if_pos rfl] at o ⊢; exact o ρ1 H1 _ Ext.refl r.st rfl
  | false => rw [if_neg Bool.false_ne_true] at o ⊢; exact ⟨ρ1, L1, s, r, o⟩
theorem tv_w (h : WV X c e p) : TV X c e p := PW.pt h
theorem tv_not (ha : TV X c a p) : TV X c (.UnaryOp .Not a pos) (bNot p) := by
  refine pt_imp (pt_not ha) fun σ H Q h => ?_
  refine tOf.first (R := RB) (R' := RB) (k := fun s k L1 => some (.ok (!k) L1)) h fun ρ L s k L1 ρ1 H1 u r e1 q1 o => ?_
  obtain rfl : k = u := q1
  exact o ρ1 H1 _ Ext.refl r.st rfl
/-- as values: all but the last truth values -/
def eAnd (f g : EF) : EF := fun s L => bnd (f s L) fun v L1 => match v with
  | .bl true => g s L1
  | .bl false => some (.ok (.bl false) L1)
  | _ => none
def eOr (f g : EF) : EF := fun s L => bnd (f s L) fun v L1 => match v with
  | .bl true => some (.ok (.bl true) L1)
  | .bl false => g s L1
  | _ => none
def eNot (f : EF) : EF := fun s L => bnd (f s L) fun v L1 => match v with
  | .bl k => some (.ok (.bl (!k)) L1)
  | _ => none
theorem ev_one {op} (h : EV X c a f) : EV X c (.BoolOp op [a] pos) f := pe_one h
theorem ev_and (ha : EV X c a f) (hb : EV X c (.BoolOp .And (b :: rest) pos) g) : EV X c (.BoolOp .And (a :: b :: rest) pos) (eAnd f g) := by
  refine pe_imp (pe_and ha hb) fun σ H Q h => ?_
  refine tOf.first (R := RE _) (R' := RE _) (k := fun s v L1 => match v with
    | .bl true => g s L1
    | .bl false => some (.ok (.bl false) L1)
    | _ => none) h fun ρ L s v L1 ρ1 H1 u r e1 q1 o => ?_
  split at o
  · exact ⟨true, q1, ρ1, L1, s, r, o⟩
  · exact ⟨false, q1, o ρ1 H1 _ Ext.refl r.st rfl⟩
  · exact o.elim
theorem ev_or (ha : EV X c a f) (hb : EV X c (.BoolOp .Or (b :: rest) pos) g) : EV X c (.BoolOp .Or (a :: b :: rest) pos) (eOr f g) := by
  refine pe_imp (pe_or ha hb) fun σ H Q h => ?_
  refine tOf.first (R := RE _) (R' := RE _) (k := fun s v L1 => match v with
    | .bl true => some (.ok (.bl true) L1)
    | .bl false => g s L1
    | _ => none) h fun ρ L s v L1 ρ1 H1 u r e1 q1 o => ?_
  split at o
  · exact ⟨true, q1, o ρ1 H1 _ Ext.refl r.st rfl⟩
  · exact ⟨false, q1, ρ1, L1, s, r, o⟩
  · exact o.elim
theorem ev_not (ha : EV X c a f) : EV X c (.UnaryOp .Not a pos) (eNot f) := by
  refine pe_imp (pe_not ha) fun σ H Q h => ?_
  refine tOf.first (R := RE _) (R' := RE _) (k := fun s v L1 => match v with
    | .bl k => some (.ok (.bl (!k)) L1)
    | _ => none) h fun ρ L s v L1 ρ1 H1 u r e1 q1 o => ?_
  split at o
  · exact ⟨_, q1, o ρ1 H1 _ Ext.refl r.st rfl⟩
  · exact o.elim
def eIf (p : BF) (f g : EF) : EF := fun s L => bnd (p s L) fun k L1 => if k = true then f s L1 else g s L1
theorem ev_if {t : Expr} (ht : TV X c t p) (ha : EV X c a f) (hb : EV X c b g) : EV X c (.IfExp t a b pos) (eIf p f g) := by
  refine pe_imp (pe_ifExp ht ha hb) fun σ H Q h => ?_
  refine tOf.first (R := RB) (R' := RE _) (k := fun s k L1 => if k = true then f s L1 else g s L1) h fun ρ L s k L1 ρ1 H1 u r e1 q1 o => ?_
  obtain rfl : k = u := q1
  cases k with
  | true => rw [if_pos rfl] at o ⊢; exact ⟨ρ1, L1, s, r, o⟩
  | false => rw [if_neg Bool.false_ne_true] at o ⊢; exact ⟨ρ1, L1, s, r, o⟩

/-! ### argument lists, displays -/
variable {es : List Expr} {fa : AF}
def aNil : AF := fun _ L => some (.ok [] L)
def aCons (f : EF) (r : AF) : AF := fun s L => bnd (f s L) fun x L1 => bnd (r s L1) fun xs L2 => some (.ok (x :: xs) L2)
theorem av_nil : AV X c [] aNil := by
  refine pa_imp pa_nil fun σ H Q h => ?_
  obtain ⟨ρ, L, s, r, o⟩ := h
  exact o ρ H _ Ext.refl r.st rfl
theorem av_cons (ha : EV X c e f) (hr : AV X c es fa) (hs : starEach (e :: es) X.env = (false, eval e X.env) :: starEach es X.env := by rfl) : AV X c (e :: es) (aCons f fa) := by
  refine pa_imp (pa_cons ha hr hs) fun σ H Q h => ?_
  refine tOf.first (R := RE _) (R' := RA _) (k := fun s x L1 => bnd (fa s L1) fun xs L2 => some (.ok (x :: xs) L2)) h fun ρ L s x L1 ρ1 H1 u r e1 q1 o => ?_
  exact ⟨ρ1, L1, s, r, Ou.bind o fun xs L2 ρ2 H2 us _ e2 t2 q2 o2 => o2 ρ2 H2 _ Ext.refl t2 ⟨_, _, rfl, Rep.mono e2.toStb q1, q2⟩⟩
def eTup (fa : AF) : EF := fun s L => bnd (fa s L) fun xs L1 => if xs.length ≤ sizeLine then some (.ok (.tup xs) L1) else none
theorem Rep.tupNew {G : Gx} {ρ : List Addr} {L : Store} {H : Hp} {p : Addr} {xs : List PV} {vs : List V} {u : HO} (t : Rst G ρ L H) (h : Reps G ρ H xs vs) (hp : H p = none) (hu : FT.TObj G.kt vs u) : Rep G ρ (upd H p u) (.tup xs) (.ref p) := by
  refine ⟨p, vs, rfl, ?_, h.mono (Ext.new hp).toStb⟩
  unfold FT.TObj at hu
  cases hk : FT.frzT G.kt vs with
  | false =>
    rw [hk, if_neg Bool.false_ne_true] at hu
    subst hu
    exact .inl ⟨hk, upd_same⟩
  | true =>
    rw [hk, if_pos rfl] at hu
    obtain ⟨o, hd, rfl⟩ := hu
    exact .inr ⟨hk, .inl ⟨t.fresh hp, o, hd, upd_same⟩⟩
theorem ev_tup {x1} (h : AV X c es fa) : EV X c (.Tuple es x1 pos) (eTup fa) := by
  refine pe_imp (FT.pe_tupM (m := c.kt) h) fun σ H Q q => ?_
  refine tOf.first (R := RA _) (R' := RE _) (k := fun s xs L1 => if xs.length ≤ sizeLine then some (.ok (.tup xs) L1) else none) q fun ρ L s xs L1 ρ1 H1 vs r e1 q1 o => ?_
  split at o
  · rename_i hz
    exact ⟨by rw [← Reps.length q1]; exact hz, fun p u hp hu => o ρ1 _ _ (Ext.new hp) (r.st.new hp) (Rep.tupNew r.st q1 hp hu)⟩
  · exact o.elim

/-! ### new objects: as they are, frozen -/
theorem Stb.mut {ρ : List Addr} {H : Hp} {p : Addr} {u w : HO} (h : H p = some w) (mu : Mut (some w)) : Stb ρ ρ H (upd H p u) := by
  have k : ∀ a o, H a = some o → ¬ Mut (some o) → upd H p u a = some o := fun a o e nm => by
    rw [upd_ne]
    · exact e
    · rintro rfl
      rw [h] at e; cases e; exact nm mu
  refine ⟨⟨[], by simp, by simp⟩, fun a o e => ?_, fun a xs e => k a _ e fun z => z, fun a o u' _ e => k a _ e fun z => z⟩
  by_cases ha : a = p
  · exact ⟨u, by rw [ha, upd_same]⟩
  · exact ⟨o, by rw [upd_ne ha]; exact e⟩
theorem Ext.mutNew {ρ ρ' : List Addr} {H H' : Hp} {p : Addr} {u w : HO} (e : Ext ρ ρ' H H') (hn : H p = none) (h : H' p = some w) (mu : Mut (some w)) : Ext ρ ρ' H (upd H' p u) := by
  have ne : ∀ a o, H a = some o → a ≠ p := fun a o q z => by rw [z, hn] at q; cases q
  refine ⟨⟨e.pre, fun a o q => ?_, fun a xs q => by rw [upd_ne (ne _ _ q)]; exact e.tup a xs q, fun a o u' hn' q => by rw [upd_ne (ne _ _ q)]; exact e.frz a o u' hn' q⟩, fun a o hn' q => by rw [upd_ne (ne _ _ q)]; exact e.keep a o hn' q⟩
  obtain ⟨o', q'⟩ := e.there a o q
  exact ⟨o', by rw [upd_ne (ne _ _ q)]; exact q'⟩
theorem Rst.mutOut {G : Gx} {ρ : List Addr} {L : Store} {H : Hp} {p : Addr} {u w : HO} (r : Rst G ρ L H) (hp : p ∉ ρ) (h : H p = some w) (mu : Mut (some w)) : Rst G ρ L (upd H p u) :=
  r.keep (Stb.mut h mu) fun a ha => upd_ne fun z => hp (z ▸ ha)
def frzC : Cell → Option PV
  | .lst xs => some (.lst xs)
  | .dk kvs => some (.dk (kvs.map (·.1)) (kvs.map (·.2)))
  | .dt kvs => some (.dt (kvs.map (·.1)) (kvs.map (·.2)))
  | .ins _ _ => none
theorem CRep.frz {G : Gx} {ρ : List Addr} {H : Hp} {p : Addr} {c : Cell} {v : PV} (h : CRep G ρ H p c) (hp : p ∉ ρ) (hf : frzC c = some v) : ∃ u, H p = some u ∧ Mut (some u) ∧ ∀ o, Rep G ρ (upd H p (.frz o u)) v (.ref p) := by
  cases c with
  | lst xs =>
    obtain ⟨vs, h1, h2⟩ := h
    cases hf
    exact ⟨_, h1, trivial, fun o => ⟨p, o, vs, rfl, hp, upd_same, h2.mono (Stb.mut h1 trivial)⟩⟩
  | dk kvs =>
    obtain ⟨l, h1, h2, h3⟩ := h
    cases hf
    exact ⟨_, h1, trivial, fun o => ⟨p, o, l, rfl, hp, upd_same, h2, h3.mono (Stb.mut h1 trivial)⟩⟩
  | dt kvs =>
    obtain ⟨l, h1, h2, h3⟩ := h
    cases hf
    exact ⟨_, h1, trivial, fun o => ⟨p, o, l, rfl, hp, upd_same, h2, h3.mono (Stb.mut h1 trivial)⟩⟩
  | ins C fs => cases hf
theorem pe_frz {t : TE} (h : PE X e t) : PE X e (fun σ H Q => t σ H fun v H1 => ∃ p u, v = .ref p ∧ H1 p = some u ∧ Mut (some u) ∧ ∀ o, Q v (upd H1 p (.frz o u))) := by
  refine ⟨fun pins s σ H Q I q => ?_⟩
  refine thn (h.run pins s σ H _ I q) fun u s1 ⟨x, H1, I1, rx, p, w, ex, hp, mu, k⟩ => ?_
  obtain ⟨od, I2⟩ := I1.lock hp mu
  exact ⟨x, _, I2, rx, k od⟩
variable {fc : CF}
def eFrz (fc : CF) : EF := fun s L => bnd (fc s L) fun w L1 => ret (frzC w) L1
theorem ev_frz (h : NV X c e fc) : EV X c e (eFrz fc) := by
  refine pe_imp (pe_frz h) fun σ H Q q => ?_
  obtain ⟨ρ, L, s, r, o⟩ := q
  refine ⟨ρ, L, s, r, ?_⟩
  unfold eFrz at o
  cases hf : fc s L with
  | none => rw [hf] at o; exact o.elim
  | some a =>
    cases a with
    | err x L1 => rw [hf] at o; exact o
    | ok w L1 =>
      rw [hf] at o
      obtain ⟨x, hx, k⟩ := Ou.ret (show Ou _ _ _ _ _ _ _ (ret (frzC w) L1) from o)
      intro ρ1 H1 v e1 t1 q1
      obtain ⟨p, rfl, hp, hn, hc⟩ := q1
      obtain ⟨u, hu, mu, hr⟩ := hc.frz hp hx
      exact ⟨p, u, rfl, hu, mu, fun od => k ρ1 _ _ (e1.mutNew hn hu mu) (t1.mutOut hp hu mu) (hr od)⟩
end
end Fx

set_option Elab.async false
set_option linter.all false
set_option maxRecDepth 100000
set_option maxHeartbeats 1000000
/-! Fx part 3: operators on pure values. -/
namespace Fx
open PySem L2

/-! ### numbers -/
def hSub : PV → PV → Option PV
  | .int i, .int j => some (.int (i - j))
  | _, _ => none
def hMod : PV → PV → Option PV
  | .int i, .int j => if 0 < j then some (.int (i % j)) else none
  | _, _ => none
def hDiv : PV → PV → Option PV
  | .int i, .int j => if 0 < j ∧ j.natAbs.log2 < 9000 then some (.int (i / j)) else none
  | _, _ => none
def hPow : PV → PV → Option PV
  | .int i, .int j => if 0 ≤ j ∧ j ≤ 1000000 ∧ i.natAbs < 2 ^ 64 then some (.int (i ^ j.toNat)) else none
  | _, _ => none
section
variable {G : Gx}
/-- an operator on two ints that gives a plain value -/
theorem Op2.ints {h : PV → PV → Option PV} {C : Int → Int → Prop} {g : Int → Int → V} {g' : Int → Int → PV} (hg : ∀ i j (ρ : List Addr) (H : Hp), Rep G ρ H (g' i j) (g i j))
    (hh : ∀ x y z, h x y = some z → ∃ i j, x = .int i ∧ y = .int j ∧ C i j ∧ z = g' i j) : Op2 G h (rI C g) := by
  intro ρ L H x y z v w Q t hx hy hz k
  obtain ⟨i, j, rfl, rfl, hc, rfl⟩ := hh x y z hz
  obtain rfl : v = .int i := hx
  obtain rfl : w = .int j := hy
  exact ⟨i, j, rfl, rfl, hc, k ρ H _ Ext.refl t (hg i j ρ H)⟩
theorem Op2.ints0 {h : PV → PV → Option PV} {g : Int → Int → V} {g' : Int → Int → PV} (hg : ∀ i j (ρ : List Addr) (H : Hp), Rep G ρ H (g' i j) (g i j))
    (hh : ∀ x y z, h x y = some z → ∃ i j, x = .int i ∧ y = .int j ∧ z = g' i j) : Op2 G h (rI0 g) := by
  intro ρ L H x y z v w Q t hx hy hz k
  obtain ⟨i, j, rfl, rfl, rfl⟩ := hh x y z hz
  obtain rfl : v = .int i := hx
  obtain rfl : w = .int j := hy
  exact ⟨i, j, rfl, rfl, k ρ H _ Ext.refl t (hg i j ρ H)⟩
theorem o2_sub : Op2 G hSub (rI0 fun i j => .int (i - j)) := .ints0 (g' := fun i j => .int (i - j)) (fun _ _ _ _ => rfl) fun x y z h => by
  unfold hSub at h
  split at h
  · cases h; exact ⟨_, _, rfl, rfl, rfl⟩
  · cases h
theorem o2_mod : Op2 G hMod (rI (fun _ j => 0 < j) fun i j => .int (i % j)) := .ints (g' := fun i j => .int (i % j)) (fun _ _ _ _ => rfl) fun x y z h => by
  unfold hMod at h
  split at h
  · split at h
    · rename_i hj
      cases h; exact ⟨_, _, rfl, rfl, hj, rfl⟩
    · cases h
  · cases h
theorem o2_div : Op2 G hDiv (rI CDivW fun i j => .int (i / j)) := .ints (g' := fun i j => .int (i / j)) (fun _ _ _ _ => rfl) fun x y z h => by
  unfold hDiv at h
  split at h
  · split at h
    · rename_i hj
      cases h; exact ⟨_, _, rfl, rfl, hj, rfl⟩
    · cases h
  · cases h
theorem o2_pow : Op2 G hPow (rI CPow fun i j => .int (i ^ j.toNat)) := .ints (g' := fun i j => .int (i ^ j.toNat)) (fun _ _ _ _ => rfl) fun x y z h => by
  unfold hPow at h
  split at h
  · split at h
    · rename_i hj
      cases h; exact ⟨_, _, rfl, rfl, hj, rfl⟩
    · cases h
  · cases h
end

/-! ### what may be a new list: frozen -/
def FQ (Q : VK) : VK := fun v H => Q v H ∨ ∃ p u, v = .ref p ∧ H p = some u ∧ Mut (some u) ∧ ∀ o, Q v (upd H p (.frz o u))
theorem pe_fq {X : Cx} {e : Expr} {t : TE} (h : PE X e t) : PE X e (fun σ H Q => t σ H (FQ Q)) := by
  refine ⟨fun pins s σ H Q I q => ?_⟩
  refine thn (h.run pins s σ H _ I q) fun u s1 ⟨x, H1, I1, rx, k⟩ => ?_
  rcases k with k | ⟨p, w, ex, hp, mu, k⟩
  · exact ⟨x, H1, I1, rx, k⟩
  · obtain ⟨od, I2⟩ := I1.lock hp mu
    exact ⟨x, _, I2, rx, k od⟩
def Op2F (G : Gx) (h : PV → PV → Option PV) (r : R2) : Prop := ∀ ρ L H x y z v w Q, Rst G ρ L H → Rep G ρ H x v → Rep G ρ H y w → h x y = some z →
  (∀ ρ' H' u, Ext ρ ρ' H H' → Rst G ρ' L H' → Rep G ρ' H' z u → Q u H') → r v w H (FQ Q)
theorem Op2F.of {G : Gx} {h : PV → PV → Option PV} {r : R2} (i : Op2 G h r) : Op2F G h r := fun ρ L H x y z v w Q t hx hy hz k => i ρ L H x y z v w (FQ Q) t hx hy hz fun ρ' H' u e t' q => .inl (k ρ' H' u e t' q)
theorem Op2.or {G : Gx} {h h1 h2 : PV → PV → Option PV} {r r' : R2} (i : Op2F G h1 r) (i' : Op2F G h2 r') (hh : ∀ x y z, h x y = some z → h1 x y = some z ∨ h2 x y = some z) : Op2F G h (fun x y H Q => r x y H Q ∨ r' x y H Q) := fun ρ L H x y z v w Q t hx hy hz k =>
  (hh x y z hz).elim (fun e => .inl (i ρ L H x y z v w Q t hx hy e k)) fun e => .inr (i' ρ L H x y z v w Q t hx hy e k)
theorem ev_opF {X : Cx} {c : FC} {a b : Expr} {f g : EF} {pos : Pos} {op : Operator} {h : PV → PV → Option PV} {r : R2} (ho : OpR X (binaryOp op) r) (i : Op2F (gx X c.kt) h r) (ha : EV X c a f) (hb : EV X c b g) : EV X c (.BinOp a op b pos) (eOp h f g) := by
  refine pe_imp (pe_fq (pe_op ho ha hb)) fun σ H Q q => ?_
  refine tOf.first (R := RE _) (k := fun s x L1 => bnd (g s L1) fun y L2 => ret (h x y) L2) q fun ρ L s x L1 ρ1 H1 v R1 e1 q1 o1 => ?_
  refine ⟨ρ1, L1, s, R1, Ou.bind o1 fun y L2 ρ2 H2 w _ e2 t2 q2 o2 => ?_⟩
  obtain ⟨z, hz, k⟩ := Ou.ret o2
  exact i ρ2 L2 H2 x y z v w Q t2 (Rep.mono e2.toStb q1) q2 hz k

/-! ### lists that may be frozen: + and * -/
section
variable {X : Cx} {pins : List (Addr × Obj)} {σ : St} {H : Hp} {s : Shared} {l : Addr} {xs : List V}
theorem lstF (I : Inv X pins σ H s) (hH : Rd H l (.lst xs)) : xs.length ≤ sizeLine ∧ ∃ (its : List Value) (n : Nat), Vals xs its ∧ xs.length = its.length ∧ s.heap.get? l = some { cls := .type "list", data := .seq its.toArray n } := by
  obtain ⟨z, its, n, r, e⟩ := hH.ok I.hok
  exact ⟨z, its, n, r, r.length, e⟩
def rCatF : R2 := fun x y H Q => ∃ l b xs zs, x = .ref l ∧ y = .ref b ∧ Rd H l (.lst xs) ∧ Rd H b (.lst zs) ∧ xs.length + zs.length ≤ sizeLine ∧ ∀ p, H p = none → Q (.ref p) (upd H p (.lst (xs ++ zs)))
theorem op_catF : OpR X (binaryOp .Add) rCatF := by
  intro pins s σ H x y v u Q I rx ry h
  obtain ⟨l, b, xs, zs, rfl, rfl, hH, hB, hz, q⟩ := h
  cases rx
  cases ry
  obtain ⟨z, its, n, r, hl, e⟩ := lstF I hH
  obtain ⟨z2, its2, n2, r2, hl2, e2⟩ := lstF I hB
  refine PySem.P.add_list e e2 ?_ (by rw [List.size_toArray, List.size_toArray]; omega)
  have ea : its.toArray ++ its2.toArray = (its ++ its2).toArray := by simp
  rw [ea]
  exact ⟨.ref _, _, I.lnew (t' := s.toks) (r.append r2) (by rw [List.length_append]; omega), rfl, q _ I.fresh⟩
end

def hAddI : PV → PV → Option PV
  | .int i, .int j => some (.int (i + j))
  | _, _ => none
def hAddS : PV → PV → Option PV
  | .str x, .str y => if x.length + y.length ≤ sizeLine then some (.str (x ++ y)) else none
  | _, _ => none
def hAddT : PV → PV → Option PV
  | .tup xs, .tup ys => if xs.length + ys.length ≤ sizeLine then some (.tup (xs ++ ys)) else none
  | _, _ => none
def hAddL : PV → PV → Option PV
  | .lst xs, .lst ys => if xs.length + ys.length ≤ sizeLine then some (.lst (xs ++ ys)) else none
  | _, _ => none
def hAdd : PV → PV → Option PV
  | .int i, .int j => some (.int (i + j))
  | .str x, .str y => if x.length + y.length ≤ sizeLine then some (.str (x ++ y)) else none
  | .tup xs, .tup ys => if xs.length + ys.length ≤ sizeLine then some (.tup (xs ++ ys)) else none
  | .lst xs, .lst ys => if xs.length + ys.length ≤ sizeLine then some (.lst (xs ++ ys)) else none
  | _, _ => none
section
variable {G : Gx}
theorem KTup.sq {ρ : List Addr} {H : Hp} {a : Addr} {xs : List V} (h : TupAt G ρ H a xs) : SqT G.K H a xs := by
  rcases h with ⟨_, h⟩ | ⟨_, ⟨_, o, _, h⟩ | ⟨_, o, its, n, e1, e2, _, e4⟩⟩
  · exact .inl (.inl h)
  · exact .inl (.inr ⟨o, h⟩)
  · exact .inr ⟨o, its, n, e1, e2, e4⟩
theorem o2_addI : Op2 G hAddI (rI0 fun i j => .int (i + j)) := .ints0 (g' := fun i j => .int (i + j)) (fun _ _ _ _ => rfl) fun x y z h => by
  unfold hAddI at h
  split at h
  · cases h; exact ⟨_, _, rfl, rfl, rfl⟩
  · cases h
theorem o2_addS : Op2 G hAddS (fun x y H Q => ∃ i j, x = .str i ∧ y = .str j ∧ i.length + j.length ≤ sizeLine ∧ Q (.str (i ++ j)) H) := by
  intro ρ L H x y z v w Q t hx hy hz k
  unfold hAddS at hz
  split at hz
  · split at hz
    · rename_i hl
      cases hz
      exact ⟨_, _, hx, hy, hl, k ρ H _ Ext.refl t rfl⟩
    · cases hz
  · cases hz
theorem o2_addT {K : PySem.W.Frag} (hK : G.K = K) : Op2 G hAddT (FT.rCatM G.kt K) := by
  subst hK
  intro ρ L H x y z v w Q t hx hy hz k
  unfold hAddT at hz
  split at hz
  · rename_i xs ys
    split at hz
    · rename_i hl
      cases hz
      obtain ⟨a, vs, rfl, ha, ra⟩ := hx
      obtain ⟨b, ws, rfl, hb, rb⟩ := hy
      have la := ra.length
      have lb := rb.length
      refine ⟨a, b, vs, ws, rfl, rfl, KTup.sq ha, KTup.sq hb, by omega, fun e => ?_, fun _ e => ?_, fun _ _ p u hp hu => ?_⟩
      · subst e
        have : xs = [] := List.eq_nil_of_length_eq_zero (by simpa using la)
        subst this
        exact k ρ H _ Ext.refl t ⟨b, ws, rfl, hb, rb⟩
      · subst e
        have : ys = [] := List.eq_nil_of_length_eq_zero (by simpa using lb)
        subst this
        rw [List.append_nil] at k
        exact k ρ H _ Ext.refl t ⟨a, vs, rfl, ha, ra⟩
      · exact k ρ _ _ (Ext.new hp) (t.new hp) (Rep.tupNew t (ra.append rb) hp hu)
    · cases hz
  · cases hz
theorem Rep.lstNew {G : Gx} {ρ : List Addr} {H : Hp} {L : Store} {p : Addr} {xs : List PV} {vs : List V} (t : Rst G ρ L H) (h : Reps G ρ H xs vs) (hp : H p = none) (o : Obj) :
    Ext ρ ρ H (upd (upd H p (.lst vs)) p (.frz o (.lst vs))) ∧ Rst G ρ L (upd (upd H p (.lst vs)) p (.frz o (.lst vs))) ∧ Rep G ρ (upd (upd H p (.lst vs)) p (.frz o (.lst vs))) (.lst xs) (.ref p) := by
  rw [upd_upd]
  exact ⟨Ext.new hp, t.new hp, p, o, vs, rfl, t.fresh hp, upd_same, h.mono (Ext.new hp).toStb⟩
theorem o2_addL : Op2F G hAddL rCatF := by
  intro ρ L H x y z v w Q t hx hy hz k
  unfold hAddL at hz
  split at hz
  · rename_i xs ys
    split at hz
    · rename_i hl
      cases hz
      obtain ⟨a, o, vs, rfl, _, ha, ra⟩ := hx
      obtain ⟨b, o', ws, rfl, _, hb, rb⟩ := hy
      have la := ra.length
      have lb := rb.length
      refine ⟨a, b, vs, ws, rfl, rfl, .inr ⟨o, ha⟩, .inr ⟨o', hb⟩, by omega, fun p hp => .inr ⟨p, _, rfl, upd_same, trivial, fun od => ?_⟩⟩
      obtain ⟨h1, h2, h3⟩ := Rep.lstNew t (ra.append rb) hp od
      exact k ρ _ _ h1 h2 h3
    · cases hz
  · cases hz
end
theorem ev_add {X : Cx} {c : FC} {a b : Expr} {f g : EF} {pos : Pos} (ha : EV X c a f) (hb : EV X c b g) : EV X c (.BinOp a .Add b pos) (eOp hAdd f g) := by
  refine ev_opF ((op_add.or op_add_str).or ((FT.op_catM (m := c.kt)).or op_catF)) ?_ ha hb
  refine Op2.or (h1 := fun x y => match x, y with
    | .int i, .int j => some (.int (i + j))
    | .str x, .str y => if x.length + y.length ≤ sizeLine then some (.str (x ++ y)) else none
    | _, _ => none) (h2 := fun x y => match x, y with
    | .tup xs, .tup ys => if xs.length + ys.length ≤ sizeLine then some (.tup (xs ++ ys)) else none
    | .lst xs, .lst ys => if xs.length + ys.length ≤ sizeLine then some (.lst (xs ++ ys)) else none
    | _, _ => none) (Op2.or (h1 := hAddI) (h2 := hAddS) (.of o2_addI) (.of o2_addS) ?_) (Op2.or (h1 := hAddT) (h2 := hAddL) (.of (o2_addT rfl)) o2_addL ?_) ?_
  · intro x y z h
    cases x <;> cases y <;> first | exact .inl h | exact .inr h | (cases h)
  · intro x y z h
    cases x <;> cases y <;> first | exact .inl h | exact .inr h | (cases h)
  · intro x y z h
    cases x <;> cases y <;> first | exact .inl h | exact .inr h | (cases h)
theorem ev_sub {X : Cx} {c : FC} {a b : Expr} {f g : EF} {pos : Pos} (ha : EV X c a f) (hb : EV X c b g) : EV X c (.BinOp a .Sub b pos) (eOp hSub f g) := ev_op op_sub o2_sub ha hb
theorem ev_mod {X : Cx} {c : FC} {a b : Expr} {f g : EF} {pos : Pos} (ha : EV X c a f) (hb : EV X c b g) : EV X c (.BinOp a .Mod b pos) (eOp hMod f g) := ev_op op_mod o2_mod ha hb
theorem ev_fdiv {X : Cx} {c : FC} {a b : Expr} {f g : EF} {pos : Pos} (ha : EV X c a f) (hb : EV X c b g) : EV X c (.BinOp a .FloorDiv b pos) (eOp hDiv f g) := ev_op op_fdivW o2_div ha hb
theorem ev_pow {X : Cx} {c : FC} {a b : Expr} {f g : EF} {pos : Pos} (ha : EV X c a f) (hb : EV X c b g) : EV X c (.BinOp a .Pow b pos) (eOp hPow f g) := ev_op op_pow o2_pow ha hb
/-- -a -/
def eNeg (f : EF) : EF := fun s L => bnd (f s L) fun v L1 => match v with
  | .int i => some (.ok (.int (-i)) L1)
  | _ => none
theorem ev_neg {X : Cx} {c : FC} {a : Expr} {f : EF} {pos : Pos} (ha : EV X c a f) : EV X c (.UnaryOp .USub a pos) (eNeg f) := by
  refine pe_imp (pe_un un_neg ha) fun σ H Q h => ?_
  refine tOf.first (R := RE _) (R' := RE _) (k := fun s v L1 => match v with
    | .int i => some (.ok (.int (-i)) L1)
    | _ => none) h fun ρ L s v L1 ρ1 H1 u r e1 q1 o => ?_
  split at o
  · exact ⟨_, q1, o ρ1 H1 _ Ext.refl r.st rfl⟩
  · exact o.elim

/-! ### a * b: numbers, a list or a tuple repeated -/
def hMulI : PV → PV → Option PV
  | .int i, .int j => if i.natAbs.log2 + j.natAbs.log2 < 1000000 then some (.int (i * j)) else none
  | _, _ => none
theorem o2_mulI {G : Gx} : Op2 G hMulI (rI CMulW fun i j => .int (i * j)) := .ints (g' := fun i j => .int (i * j)) (fun _ _ _ _ => rfl) fun x y z h => by
  unfold hMulI at h
  split at h
  · split at h
    · rename_i hj
      cases h; exact ⟨_, _, rfl, rfl, hj, rfl⟩
    · cases h
  · cases h
theorem ev_mul {X : Cx} {c : FC} {a b : Expr} {f g : EF} {pos : Pos} (ha : EV X c a f) (hb : EV X c b g) : EV X c (.BinOp a .Mult b pos) (eOp hMulI f g) := ev_op op_mulW o2_mulI ha hb

/-! ### order -/
def intsOf : List PV → Option (List Int)
  | [] => some []
  | .int i :: r => (intsOf r).map (i :: ·)
  | _ :: _ => none
theorem intsOf_some : ∀ {xs : List PV} {ns : List Int}, intsOf xs = some ns → xs = ns.map PV.int
  | [], ns, h => by cases h; rfl
  | x :: r, ns, h => by
    cases x with
    | int i =>
      unfold intsOf at h
      cases e : intsOf r with
      | none => rw [e] at h; cases h
      | some ms =>
        rw [e] at h; cases h
        rw [intsOf_some e]; rfl
    | _ => cases h
theorem reps_ints_inv {G : Gx} {ρ : List Addr} {H : Hp} : ∀ {ns : List Int} {vs : List V}, Reps G ρ H (ns.map PV.int) vs → vs = ns.map V.int
  | [], vs, h => h
  | n :: ns, vs, h => by
    obtain ⟨v, r, rfl, h1, h2⟩ := h
    rw [show v = V.int n from h1, reps_ints_inv h2]; rfl
def hLt : PV → PV → Option PV
  | .int i, .int j => some (.bl (decide (i < j)))
  | .str x, .str y => some (.bl (decide (x.cps.toList < y.cps.toList)))
  | .tup xs, .tup ys => (intsOf xs).bind fun ns => (intsOf ys).map fun ms => .bl (HT.lexLt ns ms)
  | _, _ => none
def rLtS : R2 := fun x y H Q => ∃ i j, x = .str i ∧ y = .str j ∧ Q (.bl (decide (i.cps.toList < j.cps.toList))) H
theorem o2_lt {G : Gx} {K : PySem.W.Frag} (hK : G.K = K) : Op2 G hLt (fun x y H Q => (rI0 (fun i j => V.bl (decide (i < j))) x y H Q ∨ rLtS x y H Q) ∨ rLtT K x y H Q) := by
  subst hK
  intro ρ L H x y z v w Q t hx hy hz k
  unfold hLt at hz
  split at hz
  · cases hz
    exact .inl (.inl ⟨_, _, hx, hy, k ρ H _ Ext.refl t rfl⟩)
  · cases hz
    exact .inl (.inr ⟨_, _, hx, hy, k ρ H _ Ext.refl t rfl⟩)
  · rename_i xs ys
    cases e1 : intsOf xs with
    | none => rw [e1] at hz; cases hz
    | some ns =>
      cases e2 : intsOf ys with
      | none => rw [e1, e2] at hz; cases hz
      | some ms =>
        rw [e1, e2] at hz
        cases hz
        have := intsOf_some e1
        subst this
        have := intsOf_some e2
        subst this
        obtain ⟨a, vs, rfl, ha, ra⟩ := hx
        obtain ⟨b, ws, rfl, hb, rb⟩ := hy
        have := reps_ints_inv ra
        subst this
        have := reps_ints_inv rb
        subst this
        exact .inr ⟨a, b, ns, ms, rfl, rfl, KTup.sq ha, KTup.sq hb, k ρ H _ Ext.refl t rfl⟩
  · cases hz
def hCmp (p : Int → Int → Bool) : PV → PV → Option PV
  | .int i, .int j => some (.bl (p i j))
  | _, _ => none
theorem o2_cmp {G : Gx} (p : Int → Int → Bool) : Op2 G (hCmp p) (rI0 fun i j => .bl (p i j)) := .ints0 (g' := fun i j => .bl (p i j)) (fun _ _ _ _ => rfl) fun x y z h => by
  unfold hCmp at h
  split at h
  · cases h; exact ⟨_, _, rfl, rfl, rfl⟩
  · cases h
abbrev hLe := hCmp fun i j => decide (i ≤ j)
abbrev hGt := hCmp fun i j => decide (j < i)
abbrev hGe := hCmp fun i j => decide (j ≤ i)
theorem op_ltAll {X : Cx} (hu : X.A.units < cLine) : OpR X (compareOp .Lt) (fun x y H Q => (rI0 (fun i j => V.bl (decide (i < j))) x y H Q ∨ rLtS x y H Q) ∨ rLtT X.K x y H Q) := (op_lt.or op_lt_str).or (op_ltT hu)

/-! ### is -/
def isNon : PV → Bool
  | .non => true
  | _ => false
def hIs : PV → PV → Option PV
  | .bl a, .bl b => some (.bl (decide (a = b)))
  | x, .non => some (.bl (isNon x))
  | _, _ => none
def hIsNot : PV → PV → Option PV
  | .bl a, .bl b => some (.bl (!decide (a = b)))
  | x, .non => some (.bl (!isNon x))
  | _, _ => none
theorem rep_non {G : Gx} {ρ : List Addr} {H : Hp} {x : PV} {v : V} (h : Rep G ρ H x v) : decide (v = .non) = isNon x := by
  cases x with
  | non => cases (show v = .non from h); rfl
  | bl b => cases (show v = .bl b from h); rfl
  | int i => cases (show v = .int i from h); rfl
  | str x => cases (show v = .str x from h); rfl
  | tup xs => obtain ⟨a, _, rfl, _⟩ := h; rfl
  | lst xs => obtain ⟨a, _, _, rfl, _⟩ := h; rfl
  | dk ks xs => obtain ⟨a, _, _, rfl, _⟩ := h; rfl
  | dt ks xs => obtain ⟨a, _, _, rfl, _⟩ := h; rfl
  | loc n => obtain ⟨a, rfl, _⟩ := h; rfl
  | scr n => obtain ⟨a, rfl, _⟩ := h; rfl
theorem o2_is {G : Gx} : Op2 G hIs (fun x y H Q => rIsB x y H Q ∨ (y = .non ∧ Q (.bl (decide (x = .non))) H)) := by
  intro ρ L H x y z v w Q t hx hy hz k
  unfold hIs at hz
  split at hz
  · cases hz
    exact .inl ⟨_, _, hx, hy, k ρ H _ Ext.refl t rfl⟩
  · cases hz
    refine .inr ⟨hy, ?_⟩
    rw [rep_non hx]
    exact k ρ H _ Ext.refl t rfl
  · cases hz
theorem o2_isNot {G : Gx} : Op2 G hIsNot (fun x y H Q => rNotB x y H Q ∨ (y = .non ∧ Q (.bl (!decide (x = .non))) H)) := by
  intro ρ L H x y z v w Q t hx hy hz k
  unfold hIsNot at hz
  split at hz
  · cases hz
    exact .inl ⟨_, _, hx, hy, k ρ H _ Ext.refl t rfl⟩
  · cases hz
    refine .inr ⟨hy, ?_⟩
    rw [rep_non hx]
    exact k ρ H _ Ext.refl t rfl
  · cases hz

/-! ### == of data -/
mutual
def pveq : PV → PV → Bool
  | .non, .non => true
  | .bl a, .bl b => a == b
  | .bl a, .int j => (if a then 1 else 0) == j
  | .int i, .bl b => i == (if b then 1 else 0)
  | .int i, .int j => i == j
  | .str x, .str y => x == y
  | .lst xs, .lst ys => pveqs xs ys
  | .tup xs, .tup ys => pveqs xs ys
  | _, _ => false
def pveqs : List PV → List PV → Bool
  | [], [] => true
  | x :: xs, y :: ys => pveq x y && pveqs xs ys
  | _, _ => false
end
mutual
def dOk : Nat → PV → Bool
  | _, .non => true
  | _, .bl _ => true
  | _, .int _ => true
  | _, .str x => PyData.strOk x
  | n + 1, .lst xs => dOks n xs
  | n + 1, .tup xs => dOks n xs
  | _, _ => false
def dOks : Nat → List PV → Bool
  | _, [] => true
  | n, x :: xs => dOk n x && dOks n xs
end
def hEq (x y : PV) : Option PV := if dOk 64 x = true ∧ dOk 64 y = true then some (.bl (pveq x y)) else none
def hNe (x y : PV) : Option PV := if dOk 64 x = true ∧ dOk 64 y = true then some (.bl (!pveq x y)) else none
mutual
def toD : PV → PyData
  | .non => .none
  | .bl b => .bool b
  | .int i => .int i
  | .str x => .str x
  | .lst xs => .list (toDs xs)
  | .tup xs => .tuple (toDs xs)
  | _ => .none
def toDs : List PV → List PyData
  | [] => []
  | x :: xs => toD x :: toDs xs
end
end Fx

set_option Elab.async false
set_option linter.all false
set_option maxRecDepth 100000
set_option maxHeartbeats 1000000
/-! Fx part 4: == of data; what is asked of lists, tuples, texts, dicts. -/
namespace Fx
open PySem L2

/-! ### == and != -/
mutual
theorem rep_dp {G : Gx} {ρ : List Addr} {H : Hp} : ∀ {n : Nat} {x : PV} {v : V}, dOk n x = true → Rep G ρ H x v → Dp G.K H v (toD x)
  | n, .non, v, _, h => by rw [show v = .non from h]; exact .non
  | n, .bl b, v, _, h => by rw [show v = .bl b from h]; exact .bl b
  | n, .int i, v, _, h => by rw [show v = .int i from h]; exact .int i
  | n, .str x, v, _, h => by rw [show v = .str x from h]; exact .str x
  | n, .tup xs, v, d, h => by
    obtain ⟨a, vs, rfl, ha, hr⟩ := h
    cases n with
    | zero => simp [dOk] at d
    | succ n => exact .tup (KTup.sq ha) (reps_dp (n := n) (by simpa [dOk] using d) hr)
  | n, .lst xs, v, d, h => by
    obtain ⟨a, o, vs, rfl, _, ha, hr⟩ := h
    cases n with
    | zero => simp [dOk] at d
    | succ n => exact .lst (.inl (.inr ⟨o, ha⟩)) (reps_dp (n := n) (by simpa [dOk] using d) hr)
  | n, .dk _ _, v, d, h => by cases n <;> simp [dOk] at d
  | n, .dt _ _, v, d, h => by cases n <;> simp [dOk] at d
  | n, .loc _, v, d, h => by cases n <;> simp [dOk] at d
  | n, .scr _, v, d, h => by cases n <;> simp [dOk] at d
theorem reps_dp {G : Gx} {ρ : List Addr} {H : Hp} : ∀ {n : Nat} {xs : List PV} {vs : List V}, dOks n xs = true → Reps G ρ H xs vs → DpAll G.K H vs (toDs xs)
  | n, [], vs, _, h => by rw [show vs = [] from h]; exact .nil
  | n, x :: xs, vs, d, h => by
    obtain ⟨v, r, rfl, h1, h2⟩ := h
    have d' : dOk n x = true ∧ dOks n xs = true := by simpa [dOks] using d
    exact .cons (rep_dp d'.1 h1) (reps_dp d'.2 h2)
end
mutual
theorem toD_eqv : ∀ {n m : Nat} {x y : PV}, dOk n x = true → dOk m y = true → PyData.eqv (toD x) (toD y) = pveq x y
  | n, m, .non, y, d, e => by cases y <;> first | (cases m <;> simp [dOk] at e; done) | simp [toD, PyData.eqv, pveq]
  | n, m, .bl b, y, d, e => by cases y <;> first | (cases m <;> simp [dOk] at e; done) | simp [toD, PyData.eqv, pveq]
  | n, m, .int b, y, d, e => by cases y <;> first | (cases m <;> simp [dOk] at e; done) | simp [toD, PyData.eqv, pveq]
  | n, m, .str b, y, d, e => by cases y <;> first | (cases m <;> simp [dOk] at e; done) | simp [toD, PyData.eqv, pveq]
  | n, m, .tup xs, y, d, e => by
    cases n with
    | zero => simp [dOk] at d
    | succ n =>
      cases y with
      | tup ys =>
        cases m with
        | zero => simp [dOk] at e
        | succ m => simp only [toD, PyData.eqv, pveq]; exact toDs_eqv (n := n) (m := m) (by simpa [dOk] using d) (by simpa [dOk] using e)
      | dk _ _ => cases m <;> simp [dOk] at e
      | dt _ _ => cases m <;> simp [dOk] at e
      | loc _ => cases m <;> simp [dOk] at e
      | scr _ => cases m <;> simp [dOk] at e
      | _ => simp [toD, PyData.eqv, pveq]
  | n, m, .lst xs, y, d, e => by
    cases n with
    | zero => simp [dOk] at d
    | succ n =>
      cases y with
      | lst ys =>
        cases m with
        | zero => simp [dOk] at e
        | succ m => simp only [toD, PyData.eqv, pveq]; exact toDs_eqv (n := n) (m := m) (by simpa [dOk] using d) (by simpa [dOk] using e)
      | dk _ _ => cases m <;> simp [dOk] at e
      | dt _ _ => cases m <;> simp [dOk] at e
      | loc _ => cases m <;> simp [dOk] at e
      | scr _ => cases m <;> simp [dOk] at e
      | _ => simp [toD, PyData.eqv, pveq]
  | n, m, .dk _ _, y, d, e => by cases n <;> simp [dOk] at d
  | n, m, .dt _ _, y, d, e => by cases n <;> simp [dOk] at d
  | n, m, .loc _, y, d, e => by cases n <;> simp [dOk] at d
  | n, m, .scr _, y, d, e => by cases n <;> simp [dOk] at d
theorem toDs_eqv : ∀ {n m : Nat} {xs ys : List PV}, dOks n xs = true → dOks m ys = true → PyData.eqvAll (toDs xs) (toDs ys) = pveqs xs ys
  | n, m, [], ys, d, e => by cases ys <;> simp [toDs, PyData.eqvAll, pveqs]
  | n, m, x :: xs, [], d, e => by simp [toDs, PyData.eqvAll, pveqs]
  | n, m, x :: xs, y :: ys, d, e => by
    have d' : dOk n x = true ∧ dOks n xs = true := by simpa [dOks] using d
    have e' : dOk m y = true ∧ dOks m ys = true := by simpa [dOks] using e
    simp only [toDs, PyData.eqvAll, pveqs, toD_eqv d'.1 e'.1, toDs_eqv d'.2 e'.2]
end
mutual
theorem toD_lay : ∀ {n : Nat} {x : PV}, dOk n x = true → (toD x).canLay0 = true ∧ (toD x).depth ≤ n
  | n, .non, d => ⟨rfl, by simp [toD, PyData.depth]⟩
  | n, .bl b, d => ⟨rfl, by simp [toD, PyData.depth]⟩
  | n, .int i, d => ⟨rfl, by simp [toD, PyData.depth]⟩
  | n, .str x, d => ⟨by cases n <;> simpa [dOk, toD, PyData.canLay0] using d, by simp [toD, PyData.depth]⟩
  | n, .tup xs, d => by
    cases n with
    | zero => simp [dOk] at d
    | succ n =>
      obtain ⟨h1, h2⟩ := toDs_lay (n := n) (xs := xs) (by simpa [dOk] using d)
      exact ⟨by simpa [toD, PyData.canLay0] using h1, by simpa [toD, PyData.depth] using h2⟩
  | n, .lst xs, d => by
    cases n with
    | zero => simp [dOk] at d
    | succ n =>
      obtain ⟨h1, h2⟩ := toDs_lay (n := n) (xs := xs) (by simpa [dOk] using d)
      exact ⟨by simpa [toD, PyData.canLay0] using h1, by simpa [toD, PyData.depth] using h2⟩
  | n, .dk _ _, d => by cases n <;> simp [dOk] at d
  | n, .dt _ _, d => by cases n <;> simp [dOk] at d
  | n, .loc _, d => by cases n <;> simp [dOk] at d
  | n, .scr _, d => by cases n <;> simp [dOk] at d
theorem toDs_lay : ∀ {n : Nat} {xs : List PV}, dOks n xs = true → PyData.canLayAll0 (toDs xs) = true ∧ PyData.depthAll (toDs xs) ≤ n
  | n, [], d => ⟨rfl, by simp [toDs, PyData.depthAll]⟩
  | n, x :: xs, d => by
    have d' : dOk n x = true ∧ dOks n xs = true := by simpa [dOks] using d
    obtain ⟨h1, h2⟩ := toD_lay d'.1
    obtain ⟨h3, h4⟩ := toDs_lay d'.2
    exact ⟨by simp [toDs, PyData.canLayAll0, h1, h3], by simp only [toDs, PyData.depthAll]; omega⟩
end
theorem toD_shaped {x : PV} (h : dOk 64 x = true) : SeqAt.shaped (toD x) = true := by
  obtain ⟨h1, h2⟩ := toD_lay h
  unfold SeqAt.shaped
  simp [h1, h2]
section
variable {G : Gx} {K : PySem.W.Frag}
theorem o2_eq (hK : G.K = K) : Op2 G hEq (rEqD K) := by
  subst hK
  intro ρ L H x y z v w Q t hx hy hz k
  unfold hEq at hz
  split at hz
  · rename_i hd
    cases hz
    refine ⟨toD x, toD y, rep_dp hd.1 hx, rep_dp hd.2 hy, toD_shaped hd.1, toD_shaped hd.2, ?_⟩
    rw [toD_eqv hd.1 hd.2]
    exact k ρ H _ Ext.refl t rfl
  · cases hz
theorem o2_ne (hK : G.K = K) : Op2 G hNe (rNeD K) := by
  subst hK
  intro ρ L H x y z v w Q t hx hy hz k
  unfold hNe at hz
  split at hz
  · rename_i hd
    cases hz
    refine ⟨toD x, toD y, rep_dp hd.1 hx, rep_dp hd.2 hy, toD_shaped hd.1, toD_shaped hd.2, ?_⟩
    rw [toD_eqv hd.1 hd.2]
    exact k ρ H _ Ext.refl t rfl
  · cases hz
end

/-! ### what a thing holds -/
inductive Vw where
  | lst (xs : List PV) | tup (xs : List PV) | str (x : Str)
  | dk (kvs : List (Key × PV)) | dt (kvs : List (List Key × PV))
def cellV : Cell → Option Vw
  | .lst xs => some (.lst xs)
  | .dk kvs => some (.dk kvs)
  | .dt kvs => some (.dt kvs)
  | .ins _ _ => none
def view (L : Store) : Hd → Option Vw
  | .o c => cellV c
  | .v (.lst xs) => some (.lst xs)
  | .v (.tup xs) => some (.tup xs)
  | .v (.str x) => some (.str x)
  | .v (.dk ks xs) => some (.dk (ks.zip xs))
  | .v (.dt ks xs) => some (.dt (ks.zip xs))
  | .v (.loc n) => match L[n]? with
    | some c => cellV c
    | none => none
  | .v _ => none
def DRep {κ : Type} (G : Gx) (ρ : List Addr) (H : Hp) (kvs : List (κ × PV)) (l : List (κ × V)) : Prop := l.map (·.1) = kvs.map (·.1) ∧ Reps G ρ H (kvs.map (·.2)) (l.map (·.2))
def VRep (G : Gx) (ρ : List Addr) (H : Hp) : Vw → V → Prop
  | .lst xs, v => ∃ a vs, v = .ref a ∧ Rd H a (.lst vs) ∧ Reps G ρ H xs vs
  | .tup xs, v => ∃ a vs, v = .ref a ∧ SqT G.K H a vs ∧ Reps G ρ H xs vs
  | .str x, v => v = .str x
  | .dk kvs, v => ∃ a l, v = .ref a ∧ Rd H a (.dK l) ∧ DRep G ρ H kvs l
  | .dt kvs, v => ∃ a l, v = .ref a ∧ Rd H a (.dT l) ∧ DRep G ρ H kvs l
theorem zip_fst {κ α : Type} : ∀ (ks : List κ) (xs : List α), ks.length = xs.length → (ks.zip xs).map (·.1) = ks ∧ (ks.zip xs).map (·.2) = xs
  | [], [], _ => ⟨rfl, rfl⟩
  | k :: ks, x :: xs, h => by
    obtain ⟨h1, h2⟩ := zip_fst ks xs (by simpa using h)
    exact ⟨by simp [h1], by simp [h2]⟩
  | [], x :: xs, h => by simp at h
  | k :: ks, [], h => by simp at h
theorem cell_view {G : Gx} {ρ : List Addr} {H : Hp} {a : Addr} {c : Cell} {w : Vw} (h : CRep G ρ H a c) (e : cellV c = some w) : VRep G ρ H w (.ref a) := by
  cases c with
  | lst xs => cases e; obtain ⟨vs, h1, h2⟩ := h; exact ⟨a, vs, rfl, .inl h1, h2⟩
  | dk kvs => cases e; obtain ⟨l, h1, h2⟩ := h; exact ⟨a, l, rfl, .inl h1, h2⟩
  | dt kvs => cases e; obtain ⟨l, h1, h2⟩ := h; exact ⟨a, l, rfl, .inl h1, h2⟩
  | ins C fs => cases e
theorem view_rep {G : Gx} {ρ : List Addr} {H : Hp} {L : Store} {x : Hd} {v : V} {w : Vw} (t : Rst G ρ L H) (h : HRep G ρ H x v) (e : view L x = some w) : VRep G ρ H w v := by
  cases x with
  | o c =>
    obtain ⟨a, rfl, _, h⟩ := h
    exact cell_view h e
  | v x =>
    cases x with
    | lst xs => cases e; obtain ⟨a, o, vs, rfl, _, h1, h2⟩ := h; exact ⟨a, vs, rfl, .inr ⟨o, h1⟩, h2⟩
    | tup xs => cases e; obtain ⟨a, vs, rfl, h1, h2⟩ := h; exact ⟨a, vs, rfl, KTup.sq h1, h2⟩
    | str x => cases e; exact h
    | dk ks xs =>
      cases e
      obtain ⟨a, o, l, rfl, _, h1, h2, h3⟩ := h
      have hl : ks.length = xs.length := by rw [h3.length, ← h2]; simp
      obtain ⟨z1, z2⟩ := zip_fst ks xs hl
      exact ⟨a, l, rfl, .inr ⟨o, h1⟩, by rw [z1]; exact h2, by rw [z2]; exact h3⟩
    | dt ks xs =>
      cases e
      obtain ⟨a, o, l, rfl, _, h1, h2, h3⟩ := h
      have hl : ks.length = xs.length := by rw [h3.length, ← h2]; simp
      obtain ⟨z1, z2⟩ := zip_fst ks xs hl
      exact ⟨a, l, rfl, .inr ⟨o, h1⟩, by rw [z1]; exact h2, by rw [z2]; exact h3⟩
    | loc n =>
      obtain ⟨a, rfl, ha⟩ := h
      have e : (match L[n]? with
        | some c => cellV c
        | none => none) = some w := e
      cases hc : L[n]? with
      | none => rw [hc] at e; cases e
      | some c =>
        rw [hc] at e
        exact cell_view (t.cell _ c a hc ha) e
    | _ => cases e

/-! ### dicts -/
section
variable {κ : Type} [DecidableEq κ]
def look (kvs : List (κ × PV)) (k : κ) : Option PV := (kvs.find? fun kv => decide (kv.1 = k)).map (·.2)
def put (kvs : List (κ × PV)) (k : κ) (v : PV) : List (κ × PV) :=
  if (kvs.any fun kv => decide (kv.1 = k)) = true then kvs.map (fun kv => if kv.1 = k then (kv.1, v) else kv) else kvs ++ [(k, v)]
def drp (kvs : List (κ × PV)) (k : κ) : List (κ × PV) := kvs.filter fun kv => decide (kv.1 ≠ k)
theorem DRep.nil {G : Gx} {ρ : List Addr} {H : Hp} : DRep G ρ H ([] : List (κ × PV)) [] := ⟨rfl, rfl⟩
theorem DRep.cons_inv {G : Gx} {ρ : List Addr} {H : Hp} {p : κ × PV} {kvs : List (κ × PV)} {l : List (κ × V)} (h : DRep G ρ H (p :: kvs) l) : ∃ v r, l = (p.1, v) :: r ∧ Rep G ρ H p.2 v ∧ DRep G ρ H kvs r := by
  obtain ⟨h1, h2⟩ := h
  cases l with
  | nil => cases h1
  | cons q r =>
    obtain ⟨k, v⟩ := q
    rw [List.map_cons, List.map_cons] at h1
    have e1 : k = p.1 := (List.cons.inj h1).1
    have e2 := (List.cons.inj h1).2
    obtain ⟨v', r', e3, h3, h4⟩ := h2
    rw [List.map_cons] at e3
    have e4 := List.cons.inj e3
    exact ⟨v, r, by rw [e1], by rw [show v = v' from e4.1]; exact h3, e2, by rw [e4.2]; exact h4⟩
theorem DRep.cons {G : Gx} {ρ : List Addr} {H : Hp} {k : κ} {x : PV} {v : V} {kvs : List (κ × PV)} {l : List (κ × V)} (h : Rep G ρ H x v) (t : DRep G ρ H kvs l) : DRep G ρ H ((k, x) :: kvs) ((k, v) :: l) :=
  ⟨by simp [t.1], ⟨v, _, rfl, h, t.2⟩⟩
theorem DRep.length {G : Gx} {ρ : List Addr} {H : Hp} {kvs : List (κ × PV)} {l : List (κ × V)} (h : DRep G ρ H kvs l) : kvs.length = l.length := by
  have := congrArg List.length h.1
  simpa using this.symm
theorem DRep.mono {G : Gx} {ρ ρ' : List Addr} {H H' : Hp} {kvs : List (κ × PV)} {l : List (κ × V)} (h : DRep G ρ H kvs l) (e : Stb ρ ρ' H H') : DRep G ρ' H' kvs l := ⟨h.1, h.2.mono e⟩
theorem DRep.look {G : Gx} {ρ : List Addr} {H : Hp} {k : κ} : ∀ {kvs : List (κ × PV)} {l : List (κ × V)}, DRep G ρ H kvs l → (∀ x, Fx.look kvs k = some x → ∃ v, valV l k = some v ∧ Rep G ρ H x v) ∧ (Fx.look kvs k = none → valV l k = none)
  | [], l, h => by
    have : l = [] := List.eq_nil_of_length_eq_zero (by rw [← h.length]; rfl)
    subst this
    exact ⟨fun x e => (by cases e), fun _ => rfl⟩
  | p :: kvs, l, h => by
    obtain ⟨v, r, rfl, h1, h2⟩ := h.cons_inv
    obtain ⟨i1, i2⟩ := DRep.look (k := k) h2
    by_cases e : p.1 = k
    · rw [valV_pos (p := (p.1, v)) e]
      have e2 : Fx.look (p :: kvs) k = some p.2 := by simp [Fx.look, List.find?_cons, e]
      rw [e2]
      exact ⟨fun x q => by cases q; exact ⟨v, rfl, h1⟩, fun q => by cases q⟩
    · rw [valV_neg (p := (p.1, v)) e]
      have e2 : Fx.look (p :: kvs) k = Fx.look kvs k := by simp [Fx.look, List.find?_cons, e]
      rw [e2]
      exact ⟨i1, i2⟩
theorem DRep.any {G : Gx} {ρ : List Addr} {H : Hp} {k : κ} {kvs : List (κ × PV)} {l : List (κ × V)} (h : DRep G ρ H kvs l) : (kvs.any fun kv => decide (kv.1 = k)) = (l.any fun kv => decide (kv.1 = k)) := by
  have e1 : (kvs.any fun kv => decide (kv.1 = k)) = ((kvs.map (·.1)).any fun x => decide (x = k)) := by rw [List.any_map]; rfl
  have e2 : (l.any fun kv => decide (kv.1 = k)) = ((l.map (·.1)).any fun x => decide (x = k)) := by rw [List.any_map]; rfl
  rw [e1, e2, h.1]
theorem DRep.append {G : Gx} {ρ : List Addr} {H : Hp} {kvs kvs' : List (κ × PV)} {l l' : List (κ × V)} (h : DRep G ρ H kvs l) (h' : DRep G ρ H kvs' l') : DRep G ρ H (kvs ++ kvs') (l ++ l') :=
  ⟨by simp [h.1, h'.1], by simpa using h.2.append h'.2⟩
theorem DRep.map {G : Gx} {ρ : List Addr} {H : Hp} {k : κ} {x : PV} {v : V} (hx : Rep G ρ H x v) : ∀ {kvs : List (κ × PV)} {l : List (κ × V)}, DRep G ρ H kvs l →
    DRep G ρ H (kvs.map fun kv => if kv.1 = k then (kv.1, x) else kv) (l.map fun kv => if kv.1 = k then (kv.1, v) else kv)
  | [], l, h => by
    have : l = [] := List.eq_nil_of_length_eq_zero (by rw [← h.length]; rfl)
    subst this
    exact .nil
  | p :: kvs, l, h => by
    obtain ⟨w, r, rfl, h1, h2⟩ := h.cons_inv
    have ih := DRep.map (k := k) hx h2
    rw [List.map_cons, List.map_cons]
    by_cases e : p.1 = k
    · rw [if_pos e, if_pos e]; exact .cons hx ih
    · rw [if_neg e, if_neg e]; exact .cons h1 ih
theorem DRep.put {G : Gx} {ρ : List Addr} {H : Hp} {k : κ} {x : PV} {v : V} (hx : Rep G ρ H x v) {kvs : List (κ × PV)} {l : List (κ × V)} (h : DRep G ρ H kvs l) : DRep G ρ H (Fx.put kvs k x) (putK l k v) := by
  unfold Fx.put putK
  rw [h.any]
  split
  · exact h.map hx
  · exact h.append (.cons hx .nil)
theorem DRep.drp {G : Gx} {ρ : List Addr} {H : Hp} {k : κ} : ∀ {kvs : List (κ × PV)} {l : List (κ × V)}, DRep G ρ H kvs l → DRep G ρ H (Fx.drp kvs k) (dropK l k)
  | [], l, h => by
    have : l = [] := List.eq_nil_of_length_eq_zero (by rw [← h.length]; rfl)
    subst this
    exact .nil
  | p :: kvs, l, h => by
    obtain ⟨w, r, rfl, h1, h2⟩ := h.cons_inv
    have ih := DRep.drp (k := k) h2
    unfold Fx.drp dropK at *
    rw [List.filter_cons, List.filter_cons]
    by_cases e : p.1 = k
    · simp only [e, ne_eq, not_true_eq_false, decide_false, Bool.false_eq_true, if_false]; exact ih
    · simp only [e, ne_eq, not_false_eq_true, decide_true, if_true]; exact .cons h1 ih
end
/-- keys -/
def keyOf : PV → Option Key
  | .int i => some (.inl i)
  | .str x => some (.inr x)
  | _ => none
def keysOf : List PV → Option (List Key)
  | [] => some []
  | x :: r => (keyOf x).bind fun k => (keysOf r).map (k :: ·)
def keyP : Key → PV
  | .inl i => .int i
  | .inr x => .str x
theorem keyOf_rep {G : Gx} {ρ : List Addr} {H : Hp} {x : PV} {v : V} {k : Key} (h : Rep G ρ H x v) (e : keyOf x = some k) : v = kV k := by
  cases x with
  | int i => cases e; exact h
  | str x => cases e; exact h
  | _ => cases e
theorem keysOf_rep {G : Gx} {ρ : List Addr} {H : Hp} : ∀ {xs : List PV} {vs : List V} {ks : List Key}, Reps G ρ H xs vs → keysOf xs = some ks → vs = ks.map kV
  | [], vs, ks, h, e => by cases e; exact h
  | x :: xs, vs, ks, h, e => by
    obtain ⟨v, r, rfl, h1, h2⟩ := h
    unfold keysOf at e
    cases e1 : keyOf x with
    | none => rw [e1] at e; cases e
    | some k =>
      rw [e1] at e
      cases e2 : keysOf xs with
      | none => rw [e2] at e; cases e
      | some ks' =>
        rw [e2] at e
        cases e
        rw [keyOf_rep h1 e1, keysOf_rep h2 e2]; rfl
/-- such a tuple is held plainly -/
theorem keys_plain {G : Gx} {ρ : List Addr} {H : Hp} {xs : List PV} {vs : List V} {ks : List Key} {b : Addr} (hk : G.kt = false) (he : xs.isEmpty = false) (h : keysOf xs = some ks) (hr : Reps G ρ H xs vs) (hb : TupAt G ρ H b vs) : H b = some (.tup vs) := by
  have e := keysOf_rep hr h
  have hne : ks ≠ [] := fun q => by
    subst q
    have := hr.length
    rw [e] at this
    cases xs with
    | nil => cases he
    | cons _ _ => simp at this
  have hp : FT.plK vs = true := by
    subst e
    unfold FT.plK
    rw [Bool.and_eq_true]
    refine ⟨?_, List.all_eq_true.mpr fun v hv => ?_⟩
    · cases ks with
      | nil => exact absurd rfl hne
      | cons _ _ => rfl
    · obtain ⟨k, _, rfl⟩ := List.mem_map.mp hv
      cases k <;> rfl
  have hf : FT.frzT G.kt vs = false := by unfold FT.frzT; rw [hk, hp]; rfl
  rcases hb with ⟨_, q⟩ | ⟨q, _⟩
  · exact q
  · rw [hf] at q; cases q
/-- what a dict has at a key: none: the key is of another kind -/
def dLook : Vw → PV → Option (Option PV)
  | .dk kvs, x => (keyOf x).map (look kvs)
  | .dt kvs, .tup xs => if xs.isEmpty = false then (keysOf xs).map (look kvs) else none
  | _, _ => none
theorem dget_of {G : Gx} {ρ : List Addr} {H : Hp} {w : Vw} {x : PV} {v y : V} {o : Option PV} (hk : G.kt = false ∨ ∃ kvs, w = .dk kvs) (h : VRep G ρ H w v) (hx : Rep G ρ H x y) (e : dLook w x = some o) :
    ∃ a r, v = .ref a ∧ DGet H a y r ∧ (∀ z, o = some z → ∃ u, r = some u ∧ Rep G ρ H z u) ∧ (o = none → r = none) := by
  cases w with
  | dk kvs =>
    obtain ⟨a, l, rfl, h1, h2⟩ := h
    cases ek : keyOf x with
    | none => simp [dLook, ek] at e
    | some k =>
      simp only [dLook, ek, Option.map_some, Option.some.injEq] at e
      obtain ⟨i1, i2⟩ := h2.look (k := k)
      exact ⟨a, _, rfl, .inl ⟨l, k, h1, keyOf_rep hx ek, rfl⟩, fun z q => i1 z (e.trans q), fun q => i2 (e.trans q)⟩
  | dt kvs =>
    obtain ⟨a, l, rfl, h1, h2⟩ := h
    have hk' : G.kt = false := by
      rcases hk with q | ⟨_, q⟩
      · exact q
      · cases q
    cases x with
    | tup xs =>
      obtain ⟨b, vs, rfl, hb, hr⟩ := hx
      have e : (if xs.isEmpty = false then (keysOf xs).map (look kvs) else none) = some o := e
      split at e
      rotate_left
      · cases e
      rename_i hemp
      cases ek : keysOf xs with
      | none => rw [ek] at e; cases e
      | some k =>
        have hb := keys_plain hk' hemp ek hr hb
        simp only [ek, Option.map_some, Option.some.injEq] at e
        have := keysOf_rep hr ek
        subst this
        obtain ⟨i1, i2⟩ := h2.look (k := k)
        exact ⟨a, _, rfl, .inr ⟨l, k, b, h1, rfl, hb, rfl⟩, fun z q => i1 z (e.trans q), fun q => i2 (e.trans q)⟩
    | _ => cases e
  | _ => cases e
end Fx

set_option Elab.async false
set_option linter.all false
set_option maxRecDepth 100000
set_option maxHeartbeats 1000000
/-! Fx part 5: subscripts, slices, in, calls of what is built in. -/
namespace Fx
open PySem L2

/-! ### subscripts -/
def rIxD : R2 := fun x y H Q => ∃ a v, x = .ref a ∧ DGet H a y (some v) ∧ Q v H
theorem ix_dict {X : Cx} (hu : X.A.units + 1 < cLine) : IxR X rIxD := by
  intro value slice pins s σ H x y v u Q I rx ry h hs
  obtain ⟨a, z, rfl, g, q⟩ := h
  obtain rfl : v = .ref a := rx
  exact PyProof.Rows.tail_any (ops := [.ref a, u]) (dict_typeIs I g) PySem.F.slot_dict_getitem.lookup (d_getItem hu I g ry fun w' s3 I3 rw' => ⟨z, H, I3, rw', q⟩) hs
def dLook' (kt : Bool) (w : Vw) (x : PV) : Option (Option PV) := match w, kt with
  | .dt _, true => none
  | _, _ => dLook w x
theorem dget_of' {G : Gx} {ρ : List Addr} {H : Hp} {w : Vw} {x : PV} {v y : V} {o : Option PV} (h : VRep G ρ H w v) (hx : Rep G ρ H x y) (e : dLook' G.kt w x = some o) :
    ∃ a r, v = .ref a ∧ DGet H a y r ∧ (∀ z, o = some z → ∃ u, r = some u ∧ Rep G ρ H z u) ∧ (o = none → r = none) := by
  cases w with
  | dt kvs =>
    cases hk : G.kt with
    | true => rw [hk] at e; cases e
    | false => rw [hk] at e; exact dget_of (.inl hk) h hx e
  | dk kvs => exact dget_of (.inr ⟨kvs, rfl⟩) h hx (by cases hk : G.kt <;> (rw [hk] at e; exact e))
  | lst xs => cases hk : G.kt <;> (rw [hk] at e; cases e)
  | tup xs => cases hk : G.kt <;> (rw [hk] at e; cases e)
  | str xs => cases hk : G.kt <;> (rw [hk] at e; cases e)
theorem Reps.atI {G : Gx} {ρ : List Addr} {H : Hp} {xs : List PV} {vs : List V} {i : Int} {x : PV} (h : Reps G ρ H xs vs) (e : L2.atI xs i = some x) : ∃ v, L2.atI vs i = some v ∧ Rep G ρ H x v := by
  unfold L2.atI at *
  rw [h.length] at e
  cases hi : ixN vs.length i with
  | none => rw [hi] at e; cases e
  | some j =>
    rw [hi] at e
    exact h.get e
def hIx (kt : Bool) (L : Store) (x : Hd) (y : PV) : Option PV := match view L x with
  | some (.lst xs) => match y with
    | .int i => atI xs i
    | _ => none
  | some (.tup xs) => match y with
    | .int i => atI xs i
    | _ => none
  | some (.str z) => match y with
    | .int i => if z.length ≤ sizeLine then (atI z.cps.toList i).map fun c => .str ⟨#[c]⟩ else none
    | _ => none
  | some w => match dLook' kt w y with
    | some (some v) => some v
    | _ => none
  | none => none
def eOpH (h : Store → Hd → PV → Option PV) (f : FF Hd) (g : EF) : EF := fun s L => bnd (f s L) fun x L1 => bnd (g s L1) fun y L2 => ret (h L2 x y) L2
def eOpH' (h : Store → PV → Hd → Option PV) (f : EF) (g : FF Hd) : EF := fun s L => bnd (f s L) fun x L1 => bnd (g s L1) fun y L2 => ret (h L2 x y) L2
def OpH (G : Gx) (h : Store → Hd → PV → Option PV) (r : R2) : Prop := ∀ ρ L H x y z v w Q, Rst G ρ L H → HRep G ρ H x v → Rep G ρ H y w → h L x y = some z →
  (∀ ρ' H' u, Ext ρ ρ' H H' → Rst G ρ' L H' → Rep G ρ' H' z u → Q u H') → r v w H Q
def OpH' (G : Gx) (h : Store → PV → Hd → Option PV) (r : R2) : Prop := ∀ ρ L H x y z v w Q, Rst G ρ L H → Rep G ρ H x v → HRep G ρ H y w → h L x y = some z →
  (∀ ρ' H' u, Ext ρ ρ' H H' → Rst G ρ' L H' → Rep G ρ' H' z u → Q u H') → r v w H Q
section
variable {X : Cx} {c : FC} {a b e : Expr} {f : FF Hd} {g : EF} {pos : Pos}
theorem opH_read {h : Store → Hd → PV → Option PV} {r : R2} (i : OpH (gx X c.kt) h r) {σ : St} {H : Hp} {Q : VK} (q : tOf (gx X c.kt) (RE (gx X c.kt)) c.r0 c.H0 c.W (eOpH h f g) σ H Q) :
    tOp r (tOf (gx X c.kt) (RH (gx X c.kt)) c.r0 c.H0 c.W f) (tOf (gx X c.kt) (RE (gx X c.kt)) c.r0 c.H0 c.W g) σ H Q := by
  refine tOf.first (R := RH _) (k := fun s x L1 => bnd (g s L1) fun y L2 => ret (h L2 x y) L2) q fun ρ L s x L1 ρ1 H1 v R1 e1 q1 o1 => ?_
  refine ⟨ρ1, L1, s, R1, Ou.bind o1 fun y L2 ρ2 H2 w _ e2 t2 q2 o2 => ?_⟩
  obtain ⟨z, hz, k⟩ := Ou.ret o2
  exact i ρ2 L2 H2 x y z v w Q t2 (HRep.ext e2 q1) q2 hz k
theorem opH_read' {h : Store → PV → Hd → Option PV} {r : R2} (i : OpH' (gx X c.kt) h r) {σ : St} {H : Hp} {Q : VK} (q : tOf (gx X c.kt) (RE (gx X c.kt)) c.r0 c.H0 c.W (eOpH' h g f) σ H Q) :
    tOp r (tOf (gx X c.kt) (RE (gx X c.kt)) c.r0 c.H0 c.W g) (tOf (gx X c.kt) (RH (gx X c.kt)) c.r0 c.H0 c.W f) σ H Q := by
  refine tOf.first (R := RE _) (k := fun s x L1 => bnd (f s L1) fun y L2 => ret (h L2 x y) L2) q fun ρ L s x L1 ρ1 H1 v R1 e1 q1 o1 => ?_
  refine ⟨ρ1, L1, s, R1, Ou.bind o1 fun y L2 ρ2 H2 w _ e2 t2 q2 o2 => ?_⟩
  obtain ⟨z, hz, k⟩ := Ou.ret o2
  exact i ρ2 L2 H2 x y z v w Q t2 (Rep.mono e2.toStb q1) q2 hz k
theorem oh_ix {G : Gx} {K : PySem.W.Frag} (hK : G.K = K) : OpH G (hIx G.kt) (fun x y H Q => rIx K x y H Q ∨ rIxD x y H Q) := by
  subst hK
  intro ρ L H x y z v w Q t hx hy hz k
  unfold hIx at hz
  cases hw : view L x with
  | none => rw [hw] at hz; cases hz
  | some vw =>
    rw [hw] at hz
    have hr := view_rep t hx hw
    cases vw with
    | lst xs =>
      cases y with
      | int i =>
        obtain ⟨a, vs, rfl, ha, hs⟩ := hr
        obtain ⟨u, hu, ru⟩ := hs.atI (show atI xs i = some z from hz)
        exact .inl (.inl ⟨a, vs, i, u, rfl, hy, .inl ha, hu, k ρ H u Ext.refl t ru⟩)
      | _ => cases hz
    | tup xs =>
      cases y with
      | int i =>
        obtain ⟨a, vs, rfl, ha, hs⟩ := hr
        obtain ⟨u, hu, ru⟩ := hs.atI (show atI xs i = some z from hz)
        exact .inl (.inr (.inl ⟨a, vs, i, u, rfl, hy, ha, hu, k ρ H u Ext.refl t ru⟩))
      | _ => cases hz
    | str s =>
      cases y with
      | int i =>
        dsimp only at hz
        split at hz
        · rename_i hl
          cases hc : atI s.cps.toList i with
          | none => rw [hc] at hz; cases hz
          | some d =>
            rw [hc] at hz
            cases hz
            exact .inl (.inr (.inr ⟨s, i, d, hr, hy, hl, hc, k ρ H _ Ext.refl t rfl⟩))
        · cases hz
      | _ => cases hz
    | dk kvs =>
      cases hd : dLook' G.kt (.dk kvs) y with
      | none => simp only [hd] at hz; cases hz
      | some o =>
        cases o with
        | none => simp only [hd] at hz; cases hz
        | some z' =>
          simp only [hd] at hz
          cases hz
          obtain ⟨a, r, rfl, hg, h1, _⟩ := dget_of' hr hy hd
          obtain ⟨u, rfl, ru⟩ := h1 _ rfl
          exact .inr ⟨a, u, rfl, hg, k ρ H u Ext.refl t ru⟩
    | dt kvs =>
      cases hd : dLook' G.kt (.dt kvs) y with
      | none => simp only [hd] at hz; cases hz
      | some o =>
        cases o with
        | none => simp only [hd] at hz; cases hz
        | some z' =>
          simp only [hd] at hz
          cases hz
          obtain ⟨a, r, rfl, hg, h1, _⟩ := dget_of' hr hy hd
          obtain ⟨u, rfl, ru⟩ := h1 _ rfl
          exact .inr ⟨a, u, rfl, hg, k ρ H u Ext.refl t ru⟩
theorem IxR.or2 {r r' : R2} (h : IxR X r) (h' : IxR X r') : IxR X (fun x y H Q => r x y H Q ∨ r' x y H Q) := h.or h'
theorem ev_ix {kt : Bool} (hu : X.A.units + 1 < cLine) (hk : c.kt = kt) (ha : HV X c a f) (hb : EV X c b g) (hs : PlainIx b := by exact fun _ _ => rfl) : EV X c (.Subscript a b pos) (eOpH (hIx kt) f g) := by
  subst hk
  exact pe_imp (pe_ix (IxR.or2 ix_seq (ix_dict hu)) ha hb hs) fun _ _ _ q => opH_read (oh_ix rfl) q

/-! ### slices -/
def cutP (xs : List PV) (lo hi : Option Int) : List PV := (xs.drop (HT.sIx xs.length 0 lo)).take (HT.sIx xs.length xs.length hi - HT.sIx xs.length 0 lo)
theorem Reps.cut {G : Gx} {ρ : List Addr} {H : Hp} {xs : List PV} {vs : List V} (h : Reps G ρ H xs vs) (lo hi : Option Int) : Reps G ρ H (cutP xs lo hi) (cutV vs lo hi) := by
  unfold cutP cutV
  rw [h.length]
  exact (h.drop _).take _
def hSlice (L : Store) (x : Hd) (lo hi : Option Int) : Option PV := match view L x with
  | some (.lst xs) => some (.lst (cutP xs lo hi))
  | some (.tup xs) => some (.tup (cutP xs lo hi))
  | some (.str z) => if z.length ≤ sizeLine then some (.str (cutS z lo hi)) else none
  | _ => none
abbrev OF := FF (Option Int)
def RO : RT (Option Int) (Option Int) := fun _ _ _ a b => a = b
instance : RM RO := ⟨fun _ h => h⟩
def OV (X : Cx) (c : FC) (e : Option Expr) (f : OF) : Prop := PO X e (tOf (gx X c.kt) RO c.r0 c.H0 c.W f)
def oNo : OF := fun _ L => some (.ok none L)
def oE (g : EF) : OF := fun s L => bnd (g s L) fun v L1 => match v with
  | .int i => some (.ok (some i) L1)
  | _ => none
theorem po_imp {e : Option Expr} {t t' : TO} (h : PO X e t) (i : ∀ σ H Q, t' σ H Q → t σ H Q) : PO X e t' := ⟨fun pins s σ H Q I q => h.run pins s σ H Q I (i σ H Q q)⟩
theorem ov_no : OV X c none oNo := po_imp po_none fun σ H Q h => by
  obtain ⟨ρ, L, s, r, o⟩ := h
  exact o ρ H _ Ext.refl r.st rfl
theorem ov_e (h : EV X c e g) : OV X c (some e) (oE g) := po_imp (po_some h) fun σ H Q q => by
  refine tOf.first (R := RE _) (R' := RO) (k := fun s v L1 => match v with
    | .int i => some (.ok (some i) L1)
    | _ => none) q fun ρ L s v L1 ρ1 H1 u r e1 q1 o => ?_
  split at o
  · exact ⟨_, q1, o ρ1 H1 _ Ext.refl r.st rfl⟩
  · exact o.elim
def eSlice (f : FF Hd) (lo hi : OF) : EF := fun s L => bnd (f s L) fun x L1 => bnd (lo s L1) fun l L2 => bnd (hi s L2) fun h L3 => ret (hSlice L3 x l h) L3
theorem ev_slice {lo hi : Option Expr} {fl fh : OF} {p2 : Pos} (ha : HV X c a f) (hl : OV X c lo fl) (hh : OV X c hi fh) : EV X c (.Subscript a (.Slice lo hi none p2) pos) (eSlice f fl fh) := by
  refine pe_imp (pe_fq (pe_slice ((sl_list (X := X)).or ((FT.sl_tupM (m := c.kt) (X := X)).or sl_str)) ha hl hh)) fun σ H Q q => ?_
  refine tOf.first (R := RH _) (R' := RE _) (k := fun s x L1 => bnd (fl s L1) fun l L2 => bnd (fh s L2) fun h L3 => ret (hSlice L3 x l h) L3) q fun ρ L s x L1 ρ1 H1 v R1 e1 q1 o1 => ?_
  refine ⟨ρ1, L1, s, R1, Ou.bind (R := RO) (R' := RE _) o1 fun l L2 ρ2 H2 l' _ e2 t2 q2 o2 => ⟨ρ2, L2, s, R1.go e2 t2, Ou.bind (R := RO) (R' := RE _) o2 fun h L3 ρ3 H3 h' _ e3 t3 q3 o3 => ?_⟩⟩
  obtain rfl : l = l' := q2
  obtain rfl : h = h' := q3
  obtain ⟨z, hz, k⟩ := Ou.ret o3
  have q1' := HRep.ext (e2.trans e3) q1
  unfold hSlice at hz
  cases hw : view L3 x with
  | none => rw [hw] at hz; cases hz
  | some vw =>
    rw [hw] at hz
    have hr := view_rep t3 q1' hw
    cases vw with
    | lst xs =>
      cases hz
      obtain ⟨p, vs, rfl, ha, hs⟩ := hr
      refine .inl ⟨p, vs, rfl, .inl ha, fun p hp => .inr ⟨p, _, rfl, upd_same, trivial, fun od => ?_⟩⟩
      obtain ⟨h1, h2, h3⟩ := Rep.lstNew t3 (hs.cut l h) hp od
      exact k ρ3 _ _ h1 h2 h3
    | tup xs =>
      cases hz
      obtain ⟨p, vs, rfl, ha, hs⟩ := hr
      refine .inr (.inl ⟨p, vs, rfl, ha, fun hw' => ?_, fun _ p u hp hu => ?_⟩)
      · have hc : cutP xs l h = xs := by
          unfold cutP
          rw [hs.length, hw'.1, hw'.2, ← hs.length]
          simp
        rw [hc] at k
        cases x with
        | o cc =>
          cases cc <;> cases hw
        | v x =>
          cases x with
          | tup ys =>
            cases hw
            exact .inl (k ρ3 H3 _ Ext.refl t3 q1')
          | loc n =>
            have hw : (match L3[n]? with
              | some c => cellV c
              | none => none) = some (Vw.tup xs) := hw
            cases hc : L3[n]? with
            | none => rw [hc] at hw; cases hw
            | some cc => rw [hc] at hw; cases cc <;> cases hw
          | _ => cases hw
      · exact .inl (k ρ3 _ _ (Ext.new hp) (t3.new hp) (Rep.tupNew t3 (hs.cut l h) hp hu))
    | str s =>
      dsimp only at hz
      split at hz
      · rename_i hl
        cases hz
        exact .inr (.inr ⟨s, hr, hl, .inl (k ρ3 H3 _ Ext.refl t3 rfl)⟩)
      · cases hz
    | _ => cases hz
end
end Fx

set_option Elab.async false
set_option linter.all false
set_option maxRecDepth 100000
set_option maxHeartbeats 1000000
/-! Fx part 6: in; calls of what is built in. -/
namespace Fx
open PySem L2

/-! ### in, not in -/
def flatP : PV → Bool
  | .non => true
  | .bl _ => true
  | .int _ => true
  | .str _ => true
  | _ => false
/-- is it in: none: not served -/
def isIn (kt : Bool) (L : Store) (x : PV) (y : Hd) : Option Bool := match view L y with
  | some (.str z) => match x with
    | .str w => if w.length = 1 then some (decide (w.cps.getD 0 0 ∈ z.cps.toList)) else none
    | _ => none
  | some (.tup xs) => if flatP x = true ∧ xs.all flatP = true then some (xs.any fun z => pveq z x) else none
  | some (.lst xs) => if dOk 64 x = true ∧ dOks 63 xs = true then some (xs.any fun z => pveq z x) else none
  | some w => (dLook' kt w x).map (·.isSome)
  | none => none
def hIn (kt : Bool) (L : Store) (x : PV) (y : Hd) : Option PV := (isIn kt L x y).map PV.bl
def hNotIn (kt : Bool) (L : Store) (x : PV) (y : Hd) : Option PV := (isIn kt L x y).map fun b => PV.bl (!b)
theorem reps_flat {G : Gx} {ρ : List Addr} {H : Hp} {x : PV} {v : V} (h : Rep G ρ H x v) (f : flatP x = true) : flatV v = true := by
  cases x with
  | non => rw [show v = .non from h]; rfl
  | bl b => rw [show v = .bl b from h]; rfl
  | int i => rw [show v = .int i from h]; rfl
  | str x => rw [show v = .str x from h]; rfl
  | _ => cases f
theorem eqV_pv {G : Gx} {ρ : List Addr} {H : Hp} {x y : PV} {v w : V} (h : Rep G ρ H x v) (f : flatP x = true) (k : Rep G ρ H y w) (g : flatP y = true) : eqV v w = pveq x y := by
  cases x with
  | non => rw [show v = .non from h]; cases y <;> first | (rw [show w = _ from k]; rfl; done) | cases g
  | bl b => rw [show v = .bl b from h]; cases y <;> first | (rw [show w = _ from k]; rfl; done) | cases g
  | int i => rw [show v = .int i from h]; cases y <;> first | (rw [show w = _ from k]; rfl; done) | cases g
  | str x => rw [show v = .str x from h]; cases y <;> first | (rw [show w = _ from k]; rfl; done) | cases g
  | _ => cases f
theorem inV_pv {G : Gx} {ρ : List Addr} {H : Hp} {x : PV} {v : V} (h : Rep G ρ H x v) (f : flatP x = true) : ∀ {xs : List PV} {vs : List V}, Reps G ρ H xs vs → xs.all flatP = true → inV v vs = (xs.any fun z => pveq z x) ∧ vs.all flatV = true
  | [], vs, k, _ => by rw [show vs = [] from k]; exact ⟨rfl, rfl⟩
  | y :: ys, vs, k, g => by
    obtain ⟨w, r, rfl, h1, h2⟩ := k
    have g' : flatP y = true ∧ ys.all flatP = true := by simpa using g
    obtain ⟨i1, i2⟩ := inV_pv h f h2 g'.2
    unfold inV at *
    exact ⟨by simp only [List.any_cons, i1, eqV_pv h1 g'.1 h f], by simp only [List.all_cons, i2, reps_flat h1 g'.1, Bool.and_self]⟩
theorem any_toD {x : PV} {n : Nat} (h : dOk n x = true) : ∀ {m : Nat} {xs : List PV}, dOks m xs = true → ((toDs xs).any fun z => PyData.eqv z (toD x)) = (xs.any fun z => pveq z x)
  | m, [], _ => rfl
  | m, y :: ys, g => by
    have g' : dOk m y = true ∧ dOks m ys = true := by simpa [dOks] using g
    simp only [toDs, List.any_cons, any_toD h g'.2, toD_eqv g'.1 h]
theorem one_sign {w : Str} (h : w.length = 1) : w = ⟨#[w.cps.getD 0 0]⟩ := by
  obtain ⟨⟨l⟩⟩ := w
  have h : l.length = 1 := h
  match l, h with
  | [a], _ => rfl
/-- the rules, by a truth -/
theorem in_split {G : Gx} {kt : Bool} (hk : G.kt = kt) {r : Bool → R2} {ρ : List Addr} {L : Store} {H : Hp} {x : PV} {y : Hd} {v w : V} {b : Bool} {P : Prop} (t : Rst G ρ L H) (hx : Rep G ρ H x v) (hy : HRep G ρ H y w) (hz : isIn kt L x y = some b)
    (h1 : ∀ c z, v = .str ⟨#[c]⟩ → w = .str z → b = decide (c ∈ z.cps.toList) → P)
    (h2 : ∀ p xs, w = .ref p → SqT G.K H p xs → flatV v = true → xs.all flatV = true → b = inV v xs → P)
    (h3 : ∀ d ds, Dp G.K H v d → Dp G.K H w (.list ds) → SeqAt.shaped d = true → SeqAt.shaped (.list ds) = true → b = (ds.any fun z => PyData.eqv z d) → P)
    (h4 : ∀ a o, w = .ref a → DGet H a v o → b = o.isSome → P) : P := by
  subst hk
  unfold isIn at hz
  cases hw : view L y with
  | none => rw [hw] at hz; cases hz
  | some vw =>
    rw [hw] at hz
    have hr := view_rep t hy hw
    cases vw with
    | str z =>
      cases x with
      | str u =>
        dsimp only at hz
        split at hz
        · rename_i hl
          cases hz
          exact h1 _ z (hx.trans (congrArg V.str (one_sign hl))) hr rfl
        · cases hz
      | _ => cases hz
    | tup xs =>
      dsimp only at hz
      split at hz
      · rename_i hf
        cases hz
        obtain ⟨p, vs, rfl, ha, hs⟩ := hr
        obtain ⟨i1, i2⟩ := inV_pv hx hf.1 hs hf.2
        exact h2 p vs rfl ha (reps_flat hx hf.1) i2 i1.symm
      · cases hz
    | lst xs =>
      dsimp only at hz
      split at hz
      · rename_i hf
        cases hz
        obtain ⟨p, vs, rfl, ha, hs⟩ := hr
        refine h3 (toD x) (toDs xs) (rep_dp hf.1 hx) (.lst (.inl ha) (reps_dp hf.2 hs)) (toD_shaped hf.1) (toD_shaped (x := .lst xs) ?_) (any_toD hf.1 hf.2).symm
        simpa [dOk] using hf.2
      · cases hz
    | dk kvs =>
      cases hd : dLook' G.kt (.dk kvs) x with
      | none => simp only [hd] at hz; cases hz
      | some o =>
        simp only [hd] at hz
        cases hz
        obtain ⟨a, r, rfl, hg, k1, k2⟩ := dget_of' hr hx hd
        refine h4 a r rfl hg ?_
        cases o with
        | none => rw [k2 rfl]; rfl
        | some z => obtain ⟨u, e, _⟩ := k1 z rfl; rw [e]; rfl
    | dt kvs =>
      cases hd : dLook' G.kt (.dt kvs) x with
      | none => simp only [hd] at hz; cases hz
      | some o =>
        simp only [hd] at hz
        cases hz
        obtain ⟨a, r, rfl, hg, k1, k2⟩ := dget_of' hr hx hd
        refine h4 a r rfl hg ?_
        cases o with
        | none => rw [k2 rfl]; rfl
        | some z => obtain ⟨u, e, _⟩ := k1 z rfl; rw [e]; rfl
def rInS (n : Bool) : R2 := fun x y H Q => ∃ (c : Nat) (z : Str), x = .str ⟨#[c]⟩ ∧ y = .str z ∧ Q (.bl (if n then !decide (c ∈ z.cps.toList) else decide (c ∈ z.cps.toList))) H
def rInDi (n : Bool) : R2 := fun x y H Q => ∃ a o, y = .ref a ∧ DGet H a x o ∧ Q (.bl (if n then !o.isSome else o.isSome)) H
section
variable {X : Cx}
theorem op_inDi (hu : X.A.units + 1 < cLine) : OpR X (compareOp .In) (rInDi false) := by
  intro pins s σ H x y v u Q I rx ry h
  obtain ⟨a, o, rfl, g, q⟩ := h
  obtain rfl : u = .ref a := ry
  exact d_in hu I g rx fun s' I' => ⟨.bl _, H, I', rfl, q⟩
theorem op_notInDi (hu : X.A.units + 1 < cLine) : OpR X (compareOp .NotIn) (rInDi true) := by
  intro pins s σ H x y v u Q I rx ry h
  obtain ⟨a, o, rfl, g, q⟩ := h
  obtain rfl : u = .ref a := ry
  exact d_notIn hu I g rx fun s' I' => ⟨.bl _, H, I', rfl, q⟩
theorem op_inS : OpR X (compareOp .In) (rInS false) := op_in_sign
theorem op_notInS : OpR X (compareOp .NotIn) (rInS true) := op_notIn_sign
theorem opIn_all (hu : X.A.units + 65 < cLine) : OpR X (compareOp .In) (fun x y H Q => (rInS false x y H Q ∨ rIn X.K false x y H Q) ∨ (rInD X.K x y H Q ∨ rInDi false x y H Q)) := (op_inS.or op_in_seq).or ((op_inD hu).or (op_inDi (by omega)))
theorem opNotIn_all (hu : X.A.units + 65 < cLine) : OpR X (compareOp .NotIn) (fun x y H Q => (rInS true x y H Q ∨ rIn X.K true x y H Q) ∨ (rNotInD X.K x y H Q ∨ rInDi true x y H Q)) := (op_notInS.or op_notIn_seq).or ((op_notInD hu).or (op_notInDi (by omega)))
theorem oh_in {G : Gx} {K : PySem.W.Frag} (hK : G.K = K) {kt : Bool} (hk : G.kt = kt) : OpH' G (hIn kt) (fun x y H Q => (rInS false x y H Q ∨ rIn K false x y H Q) ∨ (rInD K x y H Q ∨ rInDi false x y H Q)) := by
  subst hK
  intro ρ L H x y z v w Q t hx hy hz k
  unfold hIn at hz
  cases hb : isIn kt L x y with
  | none => rw [hb] at hz; cases hz
  | some b =>
    rw [hb] at hz
    cases hz
    have k' := k ρ H (.bl b) Ext.refl t rfl
    refine in_split (r := fun _ _ _ _ _ => True) hk t hx hy hb (fun c z e1 e2 e3 => ?_) (fun p xs e1 e2 e3 e4 e5 => ?_) (fun d ds e1 e2 e3 e4 e5 => ?_) fun a o e1 e2 e3 => ?_
    · subst e3; exact .inl (.inl ⟨c, z, e1, e2, k'⟩)
    · subst e5; exact .inl (.inr ⟨p, xs, e1, .inr e2, e3, e4, k'⟩)
    · subst e5; exact .inr (.inl ⟨d, ds, e1, e2, e3, e4, k'⟩)
    · subst e3; exact .inr (.inr ⟨a, o, e1, e2, k'⟩)
theorem oh_notIn {G : Gx} {K : PySem.W.Frag} (hK : G.K = K) {kt : Bool} (hk : G.kt = kt) : OpH' G (hNotIn kt) (fun x y H Q => (rInS true x y H Q ∨ rIn K true x y H Q) ∨ (rNotInD K x y H Q ∨ rInDi true x y H Q)) := by
  subst hK
  intro ρ L H x y z v w Q t hx hy hz k
  unfold hNotIn at hz
  cases hb : isIn kt L x y with
  | none => rw [hb] at hz; cases hz
  | some b =>
    rw [hb] at hz
    cases hz
    have k' := k ρ H (.bl (!b)) Ext.refl t rfl
    refine in_split (r := fun _ _ _ _ _ => True) hk t hx hy hb (fun c z e1 e2 e3 => ?_) (fun p xs e1 e2 e3 e4 e5 => ?_) (fun d ds e1 e2 e3 e4 e5 => ?_) fun a o e1 e2 e3 => ?_
    · subst e3; exact .inl (.inl ⟨c, z, e1, e2, k'⟩)
    · subst e5; exact .inl (.inr ⟨p, xs, e1, .inr e2, e3, e4, k'⟩)
    · subst e5; exact .inr (.inl ⟨d, ds, e1, e2, e3, e4, k'⟩)
    · subst e3; exact .inr (.inr ⟨a, o, e1, e2, k'⟩)
end
section
variable {X : Cx} {c : FC} {a b e : Expr} {f : FF Hd} {g h : EF} {pos : Pos} {kt : Bool}
theorem ev_in (hu : X.A.units + 65 < cLine) (hk : c.kt = kt) (ha : EV X c a g) (hb : HV X c b f) (hm : behindInMarks .In b = false := by with_unfolding_all rfl) : EV X c (.Compare a [.In] [b] pos) (eOpH' (hIn kt) g f) :=
  pe_imp (pe_cmpR (opIn_all hu) ha hb hm) fun _ _ _ q => opH_read' (oh_in rfl hk) q
theorem ev_notIn (hu : X.A.units + 65 < cLine) (hk : c.kt = kt) (ha : EV X c a g) (hb : HV X c b f) (hm : behindInMarks .NotIn b = false := by with_unfolding_all rfl) : EV X c (.Compare a [.NotIn] [b] pos) (eOpH' (hNotIn kt) g f) :=
  pe_imp (pe_cmpR (opNotIn_all hu) ha hb hm) fun _ _ _ q => opH_read' (oh_notIn rfl hk) q
theorem tv_in (hu : X.A.units + 65 < cLine) (hk : c.kt = kt) (ha : EV X c a g) (hb : HV X c b f) (hm : behindInMarks .In b = false := by with_unfolding_all rfl) : TV X c (.Compare a [.In] [b] pos) (bB (eOpH' (hIn kt) g f)) :=
  pt_imp (pt_cmpR (opIn_all hu) ha hb hm) fun _ _ _ q => opH_read' (oh_in rfl hk) q.test
theorem tv_notIn (hu : X.A.units + 65 < cLine) (hk : c.kt = kt) (ha : EV X c a g) (hb : HV X c b f) (hm : behindInMarks .NotIn b = false := by with_unfolding_all rfl) : TV X c (.Compare a [.NotIn] [b] pos) (bB (eOpH' (hNotIn kt) g f)) :=
  pt_imp (pt_cmpR (opNotIn_all hu) ha hb hm) fun _ _ _ q => opH_read' (oh_notIn rfl hk) q.test

/-! ### the plain comparisons -/
theorem ev_lt (hu : X.A.units < cLine) (ha : EV X c a g) (hb : EV X c b h) : EV X c (.Compare a [.Lt] [b] pos) (eOp hLt g h) := ev_cmp (op_ltAll hu) (o2_lt rfl) ha hb (nomark _)
theorem ev_le (ha : EV X c a g) (hb : EV X c b h) : EV X c (.Compare a [.LtE] [b] pos) (eOp hLe g h) := ev_cmp op_le (o2_cmp _) ha hb (nomark _)
theorem ev_gt (ha : EV X c a g) (hb : EV X c b h) : EV X c (.Compare a [.Gt] [b] pos) (eOp hGt g h) := ev_cmp op_gt (o2_cmp _) ha hb (nomark _)
theorem ev_ge (ha : EV X c a g) (hb : EV X c b h) : EV X c (.Compare a [.GtE] [b] pos) (eOp hGe g h) := ev_cmp op_ge (o2_cmp _) ha hb (nomark _)
theorem ev_eq (hu : X.A.units + 64 < cLine) (ha : EV X c a g) (hb : EV X c b h) : EV X c (.Compare a [.Eq] [b] pos) (eOp hEq g h) := ev_cmp (op_eqD hu) (o2_eq rfl) ha hb (nomark _)
theorem ev_ne (hu : X.A.units + 64 < cLine) (ha : EV X c a g) (hb : EV X c b h) : EV X c (.Compare a [.NotEq] [b] pos) (eOp hNe g h) := ev_cmp (op_neD hu) (o2_ne rfl) ha hb (nomark _)
theorem ev_is (ha : EV X c a g) (hb : EV X c b h) : EV X c (.Compare a [.Is] [b] pos) (eOp hIs g h) := ev_cmp (op_isBl.or op_isN) o2_is ha hb (nomark _)
theorem ev_isNot (ha : EV X c a g) (hb : EV X c b h) : EV X c (.Compare a [.IsNot] [b] pos) (eOp hIsNot g h) := ev_cmp (op_notBl.or op_notN) o2_isNot ha hb (nomark _)
theorem tv_lt (hu : X.A.units < cLine) (ha : EV X c a g) (hb : EV X c b h) : TV X c (.Compare a [.Lt] [b] pos) (bB (eOp hLt g h)) := tv_cmp (op_ltAll hu) (o2_lt rfl) ha hb (nomark _)
theorem tv_le (ha : EV X c a g) (hb : EV X c b h) : TV X c (.Compare a [.LtE] [b] pos) (bB (eOp hLe g h)) := tv_cmp op_le (o2_cmp _) ha hb (nomark _)
theorem tv_gt (ha : EV X c a g) (hb : EV X c b h) : TV X c (.Compare a [.Gt] [b] pos) (bB (eOp hGt g h)) := tv_cmp op_gt (o2_cmp _) ha hb (nomark _)
theorem tv_ge (ha : EV X c a g) (hb : EV X c b h) : TV X c (.Compare a [.GtE] [b] pos) (bB (eOp hGe g h)) := tv_cmp op_ge (o2_cmp _) ha hb (nomark _)
theorem tv_eq (hu : X.A.units + 64 < cLine) (ha : EV X c a g) (hb : EV X c b h) : TV X c (.Compare a [.Eq] [b] pos) (bB (eOp hEq g h)) := tv_cmp (op_eqD hu) (o2_eq rfl) ha hb (nomark _)
theorem tv_ne (hu : X.A.units + 64 < cLine) (ha : EV X c a g) (hb : EV X c b h) : TV X c (.Compare a [.NotEq] [b] pos) (bB (eOp hNe g h)) := tv_cmp (op_neD hu) (o2_ne rfl) ha hb (nomark _)
theorem tv_is (ha : EV X c a g) (hb : EV X c b h) : TV X c (.Compare a [.Is] [b] pos) (bB (eOp hIs g h)) := tv_cmp (op_isBl.or op_isN) o2_is ha hb (nomark _)
theorem tv_isNot (ha : EV X c a g) (hb : EV X c b h) : TV X c (.Compare a [.IsNot] [b] pos) (bB (eOp hIsNot g h)) := tv_cmp (op_notBl.or op_notN) o2_isNot ha hb (nomark _)
end

/-! ### calls of what is built in -/
def Cal1 (G : Gx) (h : Store → Hd → Option PV) (r : List V → Hp → VK → Prop) : Prop := ∀ ρ L H x v z Q, Rst G ρ L H → HRep G ρ H x v → h L x = some z →
  (∀ ρ' H' u, Ext ρ ρ' H H' → Rst G ρ' L H' → Rep G ρ' H' z u → Q u H') → r [v] H Q
def CalN (G : Gx) (h : Store → Hd → Option Cell) (r : List V → Hp → VK → Prop) : Prop := ∀ ρ L H x v z Q, Rst G ρ L H → HRep G ρ H x v → h L x = some z →
  (∀ ρ' H' p, Ext ρ ρ' H H' → Rst G ρ' L H' → p ∉ ρ' → H p = none → CRep G ρ' H' p z → Q (.ref p) H') → r [v] H Q
def Cal2 (G : Gx) (h : PV → PV → Option PV) (r : List V → Hp → VK → Prop) : Prop := ∀ ρ L H x y v w z Q, Rst G ρ L H → Rep G ρ H x v → Rep G ρ H y w → h x y = some z →
  (∀ ρ' H' u, Ext ρ ρ' H H' → Rst G ρ' L H' → Rep G ρ' H' z u → Q u H') → r [v, w] H Q
def eCall1 (h : Store → Hd → Option PV) (f : FF Hd) : EF := fun s L => bnd (f s L) fun x L1 => ret (h L1 x) L1
def nCall1 (h : Store → Hd → Option Cell) (f : FF Hd) : CF := fun s L => bnd (f s L) fun x L1 => ret (h L1 x) L1
section
variable {X : Cx} {c : FC} {a b e : Expr} {f : FF Hd} {g g' : EF} {pos p : Pos} {x : Str} {id T : String} {r : List V → Hp → VK → Prop}
theorem call1_read {h : Store → Hd → Option PV} (i : Cal1 (gx X c.kt) h r) {σ : St} {H : Hp} {Q : VK} (q : tOf (gx X c.kt) (RE (gx X c.kt)) c.r0 c.H0 c.W (eCall1 h f) σ H Q) :
    tCB r (tCons (tOf (gx X c.kt) (RH (gx X c.kt)) c.r0 c.H0 c.W f) tNil) σ H Q := by
  refine tOf.first (R := RH _) (k := fun s x L1 => ret (h L1 x) L1) q fun ρ L s x L1 ρ1 H1 v R1 e1 q1 o1 => ?_
  obtain ⟨z, hz, k⟩ := Ou.ret o1
  exact i ρ1 L1 H1 x v z Q R1.st q1 hz k
theorem callN_read {h : Store → Hd → Option Cell} (i : CalN (gx X c.kt) h r) {σ : St} {H : Hp} {Q : VK} (q : tOf (gx X c.kt) (RN (gx X c.kt)) c.r0 c.H0 c.W (nCall1 h f) σ H Q) :
    tCB r (tCons (tOf (gx X c.kt) (RH (gx X c.kt)) c.r0 c.H0 c.W f) tNil) σ H Q := by
  refine tOf.first (R := RH _) (R' := RN _) (k := fun s x L1 => ret (h L1 x) L1) q fun ρ L s x L1 ρ1 H1 v R1 e1 q1 o1 => ?_
  obtain ⟨z, hz, k⟩ := Ou.ret o1
  exact i ρ1 L1 H1 x v z Q R1.st q1 hz fun ρ' H' p e t hp hn hc => k ρ' H' _ e t ⟨p, rfl, hp, hn, hc⟩
theorem ev_cB {h : Store → Hd → Option PV} (hc : CallR X (.builtin id) r) (i : Cal1 (gx X c.kt) h r) (hg : Gl X x) (hm : X.mg x = none) (hv : bootBuiltins x = some (.builtin id)) (ha : HV X c a f) (hn : x ≠ "__name__" := by decide) (hdb : (x == ("__debug__" : Str)) = false := by decide)
    (he : starEach (a :: []) X.env = (false, eval a X.env) :: starEach [] X.env := by rfl) : EV X c (.Call (.Name x p) [a] [] pos) (eCall1 h f) :=
  pe_imp (pe_callB hc hg hm hv (pa_cons ha pa_nil he) hn hdb he rfl) fun _ _ _ q => call1_read i q
theorem ev_cT {h : Store → Hd → Option PV} (hc : CallR X (.type T) r) (i : Cal1 (gx X c.kt) h r) (hg : Gl X x) (hm : X.mg x = none) (hv : bootBuiltins x = some (.type T)) (ha : HV X c a f) (hn : x ≠ "__name__" := by decide) (hdb : (x == ("__debug__" : Str)) = false := by decide)
    (he : starEach (a :: []) X.env = (false, eval a X.env) :: starEach [] X.env := by rfl) : EV X c (.Call (.Name x p) [a] [] pos) (eCall1 h f) :=
  pe_imp (pe_callTy hc hg hm hv (pa_cons ha pa_nil he) hn hdb he rfl) fun _ _ _ q => call1_read i q
theorem nv_cB {h : Store → Hd → Option Cell} (hc : CallR X (.builtin id) r) (i : CalN (gx X c.kt) h r) (hg : Gl X x) (hm : X.mg x = none) (hv : bootBuiltins x = some (.builtin id)) (ha : HV X c a f) (hn : x ≠ "__name__" := by decide) (hdb : (x == ("__debug__" : Str)) = false := by decide)
    (he : starEach (a :: []) X.env = (false, eval a X.env) :: starEach [] X.env := by rfl) : NV X c (.Call (.Name x p) [a] [] pos) (nCall1 h f) :=
  pe_imp (pe_callB hc hg hm hv (pa_cons ha pa_nil he) hn hdb he rfl) fun _ _ _ q => callN_read i q
theorem nv_cT {h : Store → Hd → Option Cell} (hc : CallR X (.type T) r) (i : CalN (gx X c.kt) h r) (hg : Gl X x) (hm : X.mg x = none) (hv : bootBuiltins x = some (.type T)) (ha : HV X c a f) (hn : x ≠ "__name__" := by decide) (hdb : (x == ("__debug__" : Str)) = false := by decide)
    (he : starEach (a :: []) X.env = (false, eval a X.env) :: starEach [] X.env := by rfl) : NV X c (.Call (.Name x p) [a] [] pos) (nCall1 h f) :=
  pe_imp (pe_callTy hc hg hm hv (pa_cons ha pa_nil he) hn hdb he rfl) fun _ _ _ q => callN_read i q
theorem ev_cB2 {h : PV → PV → Option PV} (hc : CallR X (.builtin id) r) (i : Cal2 (gx X c.kt) h r) (hg : Gl X x) (hm : X.mg x = none) (hv : bootBuiltins x = some (.builtin id)) (ha : EV X c a g) (hb : EV X c b g') (hn : x ≠ "__name__" := by decide) (hdb : (x == ("__debug__" : Str)) = false := by decide)
    (he : starEach (a :: [b]) X.env = (false, eval a X.env) :: starEach [b] X.env := by rfl) (he' : starEach [b] X.env = (false, eval b X.env) :: starEach [] X.env := by rfl) : EV X c (.Call (.Name x p) [a, b] [] pos) (eOp h g g') := by
  refine pe_imp (pe_callB hc hg hm hv (pa_cons ha (pa_cons hb pa_nil he') he) hn hdb he (by rw [he']; rfl)) fun σ H Q q => ?_
  refine tOf.first (R := RE _) (k := fun s x L1 => bnd (g' s L1) fun y L2 => ret (h x y) L2) q fun ρ L s x L1 ρ1 H1 v R1 e1 q1 o1 => ?_
  refine ⟨ρ1, L1, s, R1, Ou.bind o1 fun y L2 ρ2 H2 w _ e2 t2 q2 o2 => ?_⟩
  obtain ⟨z, hz, k⟩ := Ou.ret o2
  exact i ρ2 L2 H2 x y v w z Q t2 (Rep.mono e2.toStb q1) q2 hz k

/-! #### which -/
def hLen (L : Store) (x : Hd) : Option PV := match view L x with
  | some (.lst xs) => some (.int xs.length)
  | some (.tup xs) => some (.int xs.length)
  | some (.str z) => if z.length ≤ sizeLine then some (.int z.length) else none
  | _ => none
theorem c1_len {G : Gx} {K : PySem.W.Frag} (hK : G.K = K) : Cal1 G hLen (fun xs H Q => ∃ x n, xs = [x] ∧ LenV K x H n ∧ Q (.int n) H) := by
  subst hK
  intro ρ L H x v z Q t hx hz k
  unfold hLen at hz
  cases hw : view L x with
  | none => rw [hw] at hz; cases hz
  | some vw =>
    rw [hw] at hz
    have hr := view_rep t hx hw
    cases vw with
    | lst xs =>
      cases hz
      obtain ⟨a, vs, rfl, ha, hs⟩ := hr
      exact ⟨_, xs.length, rfl, .inl ⟨vs, .inl ha, hs.length⟩, k ρ H _ Ext.refl t rfl⟩
    | tup xs =>
      cases hz
      obtain ⟨a, vs, rfl, ha, hs⟩ := hr
      exact ⟨_, xs.length, rfl, .inr ⟨vs, ha, hs.length⟩, k ρ H _ Ext.refl t rfl⟩
    | str s =>
      dsimp only at hz
      split at hz
      · rename_i hl
        cases hz
        obtain rfl : v = .str s := hr
        exact ⟨_, s.length, rfl, ⟨hl, rfl⟩, k ρ H _ Ext.refl t rfl⟩
      · cases hz
    | _ => cases hz
theorem ev_len (hg : Gl X "len") (hm : X.mg "len" = none) (ha : HV X c a f) (he : starEach (a :: []) X.env = (false, eval a X.env) :: starEach [] X.env := by rfl) : EV X c (.Call (.Name "len" p) [a] [] pos) (eCall1 hLen f) :=
  ev_cB call_len (c1_len rfl) hg hm PySem.boot_len ha (by decide) (by decide) he
def hAbs (_ : Store) : Hd → Option PV
  | .v (.int i) => some (.int (if i < 0 then -i else i))
  | _ => none
theorem c1_abs {G : Gx} : Cal1 G hAbs (fun xs H Q => ∃ i, xs = [.int i] ∧ Q (.int (if i < 0 then -i else i)) H) := by
  intro ρ L H x v z Q t hx hz k
  unfold hAbs at hz
  split at hz
  · rename_i i
    cases hz
    obtain rfl : v = .int i := hx
    exact ⟨i, rfl, k ρ H _ Ext.refl t rfl⟩
  · cases hz
theorem ev_abs (hg : Gl X "abs") (hm : X.mg "abs" = none) (ha : HV X c a f) (he : starEach (a :: []) X.env = (false, eval a X.env) :: starEach [] X.env := by rfl) : EV X c (.Call (.Name "abs" p) [a] [] pos) (eCall1 hAbs f) :=
  ev_cB call_abs c1_abs hg hm (by decide +kernel) ha (by decide) (by decide) he
def hMax2 : PV → PV → Option PV
  | .int i, .int j => some (.int (if j > i then j else i))
  | _, _ => none
def hMin2 : PV → PV → Option PV
  | .int i, .int j => some (.int (if j < i then j else i))
  | _, _ => none
theorem c2_max {G : Gx} : Cal2 G hMax2 (fun xs H Q => ∃ i j, xs = [.int i, .int j] ∧ Q (.int (if j > i then j else i)) H) := by
  intro ρ L H x y v w z Q t hx hy hz k
  unfold hMax2 at hz
  split at hz
  · rename_i i j
    cases hz
    obtain rfl : v = .int i := hx
    obtain rfl : w = .int j := hy
    exact ⟨i, j, rfl, k ρ H _ Ext.refl t rfl⟩
  · cases hz
theorem c2_min {G : Gx} : Cal2 G hMin2 (fun xs H Q => ∃ i j, xs = [.int i, .int j] ∧ Q (.int (if j < i then j else i)) H) := by
  intro ρ L H x y v w z Q t hx hy hz k
  unfold hMin2 at hz
  split at hz
  · rename_i i j
    cases hz
    obtain rfl : v = .int i := hx
    obtain rfl : w = .int j := hy
    exact ⟨i, j, rfl, k ρ H _ Ext.refl t rfl⟩
  · cases hz
theorem ev_max2 (hc : X.calm = true) (hg : Gl X "max") (hm : X.mg "max" = none) (ha : EV X c a g) (hb : EV X c b g') (he : starEach (a :: [b]) X.env = (false, eval a X.env) :: starEach [b] X.env := by rfl) (he' : starEach [b] X.env = (false, eval b X.env) :: starEach [] X.env := by rfl) :
    EV X c (.Call (.Name "max" p) [a, b] [] pos) (eOp hMax2 g g') := ev_cB2 (call_max2 hc) c2_max hg hm (by decide +kernel) ha hb (by decide) (by decide) he he'
theorem ev_min2 (hc : X.calm = true) (hg : Gl X "min") (hm : X.mg "min" = none) (ha : EV X c a g) (hb : EV X c b g') (he : starEach (a :: [b]) X.env = (false, eval a X.env) :: starEach [b] X.env := by rfl) (he' : starEach [b] X.env = (false, eval b X.env) :: starEach [] X.env := by rfl) :
    EV X c (.Call (.Name "min" p) [a, b] [] pos) (eOp hMin2 g g') := ev_cB2 (call_min2 hc) c2_min hg hm (by decide +kernel) ha hb (by decide) (by decide) he he'

def blsOf : List PV → Option (List Bool)
  | [] => some []
  | .bl i :: r => (blsOf r).map (i :: ·)
  | _ :: _ => none
theorem blsOf_rep {G : Gx} {ρ : List Addr} {H : Hp} : ∀ {xs : List PV} {bs : List Bool} {vs : List V}, blsOf xs = some bs → Reps G ρ H xs vs → vs = bs.map V.bl
  | [], bs, vs, h, k => by cases h; exact k
  | x :: r, bs, vs, h, k => by
    obtain ⟨v, w, rfl, h1, h2⟩ := k
    cases x with
    | bl i =>
      unfold blsOf at h
      cases e : blsOf r with
      | none => rw [e] at h; cases h
      | some ms =>
        rw [e] at h; cases h
        rw [show v = V.bl i from h1, blsOf_rep e h2]; rfl
    | _ => cases h
theorem intsOf_rep {G : Gx} {ρ : List Addr} {H : Hp} {xs : List PV} {ns : List Int} {vs : List V} (h : intsOf xs = some ns) (k : Reps G ρ H xs vs) : vs = ns.map V.int := by
  have := intsOf_some h
  subst this
  exact reps_ints_inv k
def hAll (L : Store) (x : Hd) : Option PV := match view L x with
  | some (.lst xs) => (blsOf xs).map fun bs => .bl (bs.all _root_.id)
  | _ => none
def hAny (L : Store) (x : Hd) : Option PV := match view L x with
  | some (.lst xs) => (blsOf xs).map fun bs => .bl (bs.any _root_.id)
  | _ => none
def hSum (L : Store) (x : Hd) : Option PV := match view L x with
  | some (.lst xs) => (intsOf xs).map fun ns => .int ns.sum
  | _ => none
theorem c1_all {G : Gx} {K : PySem.W.Frag} (hK : G.K = K) : Cal1 G hAll (rAll K) := by
  subst hK
  intro ρ L H x v z Q t hx hz k
  unfold hAll at hz
  cases hw : view L x with
  | none => rw [hw] at hz; cases hz
  | some vw =>
    rw [hw] at hz
    have hr := view_rep t hx hw
    cases vw with
    | lst xs =>
      obtain ⟨a, vs, rfl, ha, hs⟩ := hr
      cases hb : blsOf xs with
      | none => simp [hb] at hz
      | some bs =>
        simp only [hb, Option.map_some, Option.some.injEq] at hz
        subst hz
        have := blsOf_rep hb hs
        subst this
        exact ⟨a, bs, rfl, .inl ha, k ρ H _ Ext.refl t rfl⟩
    | _ => cases hz
theorem c1_any {G : Gx} {K : PySem.W.Frag} (hK : G.K = K) : Cal1 G hAny (rAny K) := by
  subst hK
  intro ρ L H x v z Q t hx hz k
  unfold hAny at hz
  cases hw : view L x with
  | none => rw [hw] at hz; cases hz
  | some vw =>
    rw [hw] at hz
    have hr := view_rep t hx hw
    cases vw with
    | lst xs =>
      obtain ⟨a, vs, rfl, ha, hs⟩ := hr
      cases hb : blsOf xs with
      | none => simp [hb] at hz
      | some bs =>
        simp only [hb, Option.map_some, Option.some.injEq] at hz
        subst hz
        have := blsOf_rep hb hs
        subst this
        exact ⟨a, bs, rfl, .inl ha, k ρ H _ Ext.refl t rfl⟩
    | _ => cases hz
theorem c1_sum {G : Gx} {K : PySem.W.Frag} (hK : G.K = K) : Cal1 G hSum (rSum K) := by
  subst hK
  intro ρ L H x v z Q t hx hz k
  unfold hSum at hz
  cases hw : view L x with
  | none => rw [hw] at hz; cases hz
  | some vw =>
    rw [hw] at hz
    have hr := view_rep t hx hw
    cases vw with
    | lst xs =>
      obtain ⟨a, vs, rfl, ha, hs⟩ := hr
      cases hb : intsOf xs with
      | none => simp [hb] at hz
      | some bs =>
        simp only [hb, Option.map_some, Option.some.injEq] at hz
        subst hz
        have := intsOf_rep hb hs
        subst this
        exact ⟨a, bs, rfl, .inl ha, k ρ H _ Ext.refl t rfl⟩
    | _ => cases hz
theorem ev_all (hc : X.calm = true) (hg : Gl X "all") (hm : X.mg "all" = none) (ha : HV X c a f) (he : starEach (a :: []) X.env = (false, eval a X.env) :: starEach [] X.env := by rfl) : EV X c (.Call (.Name "all" p) [a] [] pos) (eCall1 hAll f) :=
  ev_cB (cr_all hc) (c1_all rfl) hg hm (by decide +kernel) ha (by decide) (by decide) he
theorem ev_any (hc : X.calm = true) (hg : Gl X "any") (hm : X.mg "any" = none) (ha : HV X c a f) (he : starEach (a :: []) X.env = (false, eval a X.env) :: starEach [] X.env := by rfl) : EV X c (.Call (.Name "any" p) [a] [] pos) (eCall1 hAny f) :=
  ev_cB (cr_any hc) (c1_any rfl) hg hm (by decide +kernel) ha (by decide) (by decide) he
theorem ev_sum (hc : X.calm = true) (hg : Gl X "sum") (hm : X.mg "sum" = none) (ha : HV X c a f) (he : starEach (a :: []) X.env = (false, eval a X.env) :: starEach [] X.env := by rfl) : EV X c (.Call (.Name "sum" p) [a] [] pos) (eCall1 hSum f) :=
  ev_cB (cr_sum hc) (c1_sum rfl) hg hm (by decide +kernel) ha (by decide) (by decide) he

/-! #### list(x), tuple(x) -/
def hTuple (L : Store) (x : Hd) : Option PV := match x with
  | .v (.tup xs) => some (.tup xs)
  | x => match view L x with
    | some (.lst xs) => some (.tup xs)
    | _ => none
theorem c1_tuple {G : Gx} {K : PySem.W.Frag} (hK : G.K = K) : Cal1 G hTuple (fun xs H Q => ∃ p ys, xs = [.ref p] ∧ ((SqL K H p ys ∧ ∀ l u, H l = none → FT.TObj G.kt ys u → Q (.ref l) (upd H l u)) ∨ (SqT K H p ys ∧ Q (.ref p) H))) := by
  subst hK
  intro ρ L H x v z Q t hx hz k
  unfold hTuple at hz
  split at hz
  · cases hz
    obtain ⟨a, vs, rfl, ha, hs⟩ := id hx
    exact ⟨a, vs, rfl, .inr ⟨KTup.sq ha, k ρ H _ Ext.refl t hx⟩⟩
  · cases hw : view L x with
    | none => rw [hw] at hz; cases hz
    | some vw =>
      rw [hw] at hz
      have hr := view_rep t hx hw
      cases vw with
      | lst xs =>
        cases hz
        obtain ⟨a, vs, rfl, ha, hs⟩ := hr
        exact ⟨a, vs, rfl, .inl ⟨.inl ha, fun l u hl hu => k ρ _ _ (Ext.new hl) (t.new hl) (Rep.tupNew t hs hl hu)⟩⟩
      | _ => cases hz
theorem ev_tuple (hg : Gl X "tuple") (hm : X.mg "tuple" = none) (ha : HV X c a f) (he : starEach (a :: []) X.env = (false, eval a X.env) :: starEach [] X.env := by rfl) : EV X c (.Call (.Name "tuple" p) [a] [] pos) (eCall1 hTuple f) :=
  ev_cT (FT.call_tupleM (m := c.kt)) (c1_tuple rfl) hg hm (by decide +kernel) ha (by decide) (by decide) he
def nListV (L : Store) (x : Hd) : Option Cell := match view L x with
  | some (.lst xs) => some (.lst xs)
  | some (.tup xs) => some (.lst xs)
  | some (.dk kvs) => some (.lst (kvs.map fun kv => keyP kv.1))
  | _ => none
def nList (L : Store) : Hd → Option Cell
  | .v (.scr ns) => some (.lst (ns.map PV.int))
  | x => nListV L x
theorem Cell.new {G : Gx} {ρ : List Addr} {H : Hp} {L : Store} {p : Addr} {xs : List PV} {vs : List V} (t : Rst G ρ L H) (h : Reps G ρ H xs vs) (hp : H p = none) :
    Ext ρ ρ H (upd H p (.lst vs)) ∧ Rst G ρ L (upd H p (.lst vs)) ∧ p ∉ ρ ∧ CRep G ρ (upd H p (.lst vs)) p (.lst xs) :=
  ⟨Ext.new hp, t.new hp, t.fresh hp, vs, upd_same, h.mono (Ext.new hp).toStb⟩
theorem reps_keys {G : Gx} {ρ : List Addr} {H : Hp} : ∀ ks : List Key, Reps G ρ H (ks.map keyP) (ks.map kV)
  | [] => rfl
  | .inl i :: ks => ⟨_, _, rfl, rfl, reps_keys ks⟩
  | .inr i :: ks => ⟨_, _, rfl, rfl, reps_keys ks⟩
theorem cn_list {G : Gx} {K : PySem.W.Frag} (hK : G.K = K) : CalN G nList (fun xs H Q => (∃ p ys, xs = [.ref p] ∧ (SqL K H p ys ∨ SqT K H p ys) ∧ ∀ l, H l = none → Q (.ref l) (upd H l (.lst ys))) ∨ ∃ (a : Addr) (kvs : List (Key × V)), xs = [.ref a] ∧ Rd H a (.dK kvs) ∧ ∀ p, H p = none → Q (.ref p) (upd H p (.lst (kvs.map fun kv => kV kv.1)))) := by
  subst hK
  intro ρ L H x v z Q t hx hz k
  unfold nList at hz
  split at hz
  · rename_i ns
    cases hz
    obtain ⟨a, rfl, ha⟩ := hx
    have hq : SqL G.K H a (ns.map V.int) := ha.elim (fun ⟨_, o, h⟩ => .inl (.inr ⟨o, h⟩)) fun h => .inr h
    refine .inl ⟨a, _, rfl, .inl hq, fun l hl => ?_⟩
    obtain ⟨h1, h2, h3, h4⟩ := Cell.new t (reps_ints (G := G) (ρ := ρ) (H := H) ns) hl
    exact k ρ _ l h1 h2 h3 hl h4
  unfold nListV at hz
  cases hw : view L x with
  | none => rw [hw] at hz; cases hz
  | some vw =>
    rw [hw] at hz
    have hr := view_rep t hx hw
    cases vw with
    | lst xs =>
      cases hz
      obtain ⟨a, vs, rfl, ha, hs⟩ := hr
      refine .inl ⟨a, vs, rfl, .inl (.inl ha), fun l hl => ?_⟩
      obtain ⟨h1, h2, h3, h4⟩ := Cell.new t hs hl
      exact k ρ _ l h1 h2 h3 hl h4
    | tup xs =>
      cases hz
      obtain ⟨a, vs, rfl, ha, hs⟩ := hr
      refine .inl ⟨a, vs, rfl, .inr ha, fun l hl => ?_⟩
      obtain ⟨h1, h2, h3, h4⟩ := Cell.new t hs hl
      exact k ρ _ l h1 h2 h3 hl h4
    | dk kvs =>
      cases hz
      obtain ⟨a, l, rfl, ha, hs⟩ := hr
      refine .inr ⟨a, l, rfl, ha, fun p hp => ?_⟩
      have e1 : (kvs.map fun kv => keyP kv.1) = (kvs.map (·.1)).map keyP := by rw [List.map_map]; rfl
      have e2 : (l.map fun kv => kV kv.1) = (l.map (·.1)).map kV := by rw [List.map_map]; rfl
      rw [e1] at k
      rw [e2, hs.1]
      obtain ⟨h1, h2, h3, h4⟩ := Cell.new t (reps_keys (G := G) (ρ := ρ) (H := H) (kvs.map (·.1))) hp
      exact k ρ _ p h1 h2 h3 hp h4
    | _ => cases hz
theorem nv_list (hc : X.calm = true) (hg : Gl X "list") (hm : X.mg "list" = none) (ha : HV X c a f) (he : starEach (a :: []) X.env = (false, eval a X.env) :: starEach [] X.env := by rfl) : NV X c (.Call (.Name "list" p) [a] [] pos) (nCall1 nList f) :=
  nv_cT (call_list_of.or (call_listD hc)) (cn_list rfl) hg hm (by decide +kernel) ha (by decide) (by decide) he
end
end Fx

set_option Elab.async false
set_option linter.all false
set_option maxRecDepth 100000
set_option maxHeartbeats 1000000
/-! Fx part 7: isinstance, sorted, dict.get, new containers. -/
namespace Fx
open PySem L2

/-! ### isinstance -/
inductive Ty5 where
  | int | bool | str | tuple | list
def Ty5.nm : Ty5 → String
  | .int => "int" | .bool => "bool" | .str => "str" | .tuple => "tuple" | .list => "list"
def isP : Ty5 → PV → Bool
  | .int, .int _ => true
  | .int, .bl _ => true
  | .bool, .bl _ => true
  | .str, .str _ => true
  | .tuple, .tup _ => true
  | .list, .lst _ => true
  | _, _ => false
def okP : PV → Bool
  | .dt _ _ => false
  | .loc _ => false
  | .scr _ => false
  | _ => true
def isi (T : Ty5) : Hd → Option Bool
  | .v x => if okP x = true then some (isP T x) else none
  | .o (.lst _) => some (match T with | .list => true | _ => false)
  | _ => none
def tyN : PV → String
  | .non => "NoneType" | .bl _ => "bool" | .int _ => "int" | .str _ => "str" | .tup _ => "tuple" | .lst _ => "list" | _ => "dict"
theorem kit_isP (T : Ty5) (x : PV) (h : okP x = true) : kitB (tyN x) T.nm = some (isP T x) := by
  cases T <;> cases x <;> first | (cases h; done) | (simp only [tyN, Ty5.nm, isP]; decide +kernel)
theorem tyx_of {G : Gx} {ρ : List Addr} {H : Hp} {x : PV} {v : V} (h : Rep G ρ H x v) (o : okP x = true) : TyX G.K H v (.type (tyN x)) := by
  cases x with
  | non => rw [show v = .non from h]; exact .base .non
  | bl b => rw [show v = .bl b from h]; exact .base (.bl b)
  | int i => rw [show v = .int i from h]; exact .base (.int i)
  | str x => rw [show v = .str x from h]; exact .base (.str x)
  | tup xs =>
    obtain ⟨a, vs, rfl, ha, _⟩ := h
    rcases ha with ⟨_, ha⟩ | ⟨_, ⟨_, o, _, ha⟩ | ⟨_, o, its, n, e1, e2, _⟩⟩
    · exact .base (.tup ha)
    · exact .fTuple ha
    · exact .kTuple e1 e2
  | lst xs => obtain ⟨a, o, vs, rfl, _, ha, _⟩ := h; exact .base (.frz ha)
  | dk ks xs => obtain ⟨a, o, l, rfl, _, ha, _⟩ := h; exact .fDict ha
  | _ => cases o
theorem isi_of {G : Gx} {ρ : List Addr} {H : Hp} {T : Ty5} {x : Hd} {v : V} {b : Bool} (h : HRep G ρ H x v) (e : isi T x = some b) : ∃ a, TyX G.K H v (.type a) ∧ ∀ T b, isi T x = some b → PySem.W.kitOne G.K (.type a) (.type T.nm) = some b := by
  cases x with
  | v x =>
    have e : (if okP x = true then some (isP T x) else none) = some b := e
    by_cases ho : okP x = true
    · refine ⟨_, tyx_of h ho, fun U d q => ?_⟩
      have q : (if okP x = true then some (isP U x) else none) = some d := q
      rw [if_pos ho] at q
      cases q
      exact kit_ty (kit_isP U x ho)
    · rw [if_neg ho] at e; cases e
  | o c =>
    cases c with
    | lst xs =>
      obtain ⟨a, rfl, _, vs, ha, _⟩ := h
      refine ⟨"list", .base (.lst ha), fun U d q => kit_ty ?_⟩
      cases q
      cases U <;> decide +kernel
    | _ => cases e
def eIsi (T : Ty5) (f : FF Hd) : EF := fun s L => bnd (f s L) fun x L1 => ret ((isi T x).map PV.bl) L1
def eIsi2 (T U : Ty5) (f : FF Hd) : EF := fun s L => bnd (f s L) fun x L1 => ret ((isi T x).bind fun b => (isi U x).map fun d => PV.bl (b || d)) L1
section
variable {X : Cx} {c : FC} {a : Expr} {f : FF Hd} {pos p p2 p3 p4 : Pos} {x y : Str}
theorem pe_ty {T : Ty5} (hg : Gl X (Str.ofString T.nm)) (hm : X.mg (Str.ofString T.nm) = none) : PE X (.Name (Str.ofString T.nm) p) (tC (.ty T.nm)) := by
  cases T with
  | int => exact pe_bltn hg hm (show bootBuiltins "int" = some (.type "int") by decide +kernel) rfl
  | bool => exact pe_bltn hg hm (show bootBuiltins "bool" = some (.type "bool") by decide +kernel) rfl
  | str => exact pe_bltn hg hm (show bootBuiltins "str" = some (.type "str") by decide +kernel) rfl
  | tuple => exact pe_bltn hg hm (show bootBuiltins "tuple" = some (.type "tuple") by decide +kernel) rfl
  | list => exact pe_bltn hg hm (show bootBuiltins "list" = some (.type "list") by decide +kernel) rfl
theorem ev_isi {T : Ty5} (hi : Gl X "isinstance") (hmi : X.mg "isinstance" = none) (hg : Gl X (Str.ofString T.nm)) (hm : X.mg (Str.ofString T.nm) = none) (ha : HV X c a f)
    (he : starEach (a :: [Expr.Name (Str.ofString T.nm) p2]) X.env = (false, eval a X.env) :: starEach [Expr.Name (Str.ofString T.nm) p2] X.env := by rfl) : EV X c (.Call (.Name "isinstance" p) [a, .Name (Str.ofString T.nm) p2] [] pos) (eIsi T f) := by
  refine pe_imp (pe_callB call_isi hi hmi (by decide +kernel) (pa_cons ha (pa_cons (pe_ty hg hm) pa_nil) he) (by decide) (by decide) he rfl) fun σ H Q q => ?_
  refine tOf.first (R := RH _) (R' := RE _) (k := fun s x L1 => ret ((isi T x).map PV.bl) L1) q fun ρ L s x L1 ρ1 H1 v r e1 q1 o => ?_
  obtain ⟨z, hz, k⟩ := Ou.ret o
  cases hb : isi T x with
  | none => rw [hb] at hz; cases hz
  | some b =>
    rw [hb] at hz
    cases hz
    obtain ⟨n, h1, h2⟩ := isi_of (G := gx X c.kt) q1 hb
    exact ⟨v, .ty T.nm, .type n, .type T.nm, b, rfl, .ty _, h1, h2 _ _ hb, k ρ1 H1 _ Ext.refl r.st rfl⟩
theorem ev_isi2 {T U : Ty5} {k0 : Nat} (hi : Gl X "isinstance") (hmi : X.mg "isinstance" = none) (hg : Gl X (Str.ofString T.nm)) (hm : X.mg (Str.ofString T.nm) = none) (hg2 : Gl X (Str.ofString U.nm)) (hm2 : X.mg (Str.ofString U.nm) = none) (ha : HV X c a f)
    (he : starEach (a :: [Expr.Tuple [.Name (Str.ofString T.nm) p2, .Name (Str.ofString U.nm) p3] k0 p4]) X.env = (false, eval a X.env) :: starEach [Expr.Tuple [.Name (Str.ofString T.nm) p2, .Name (Str.ofString U.nm) p3] k0 p4] X.env := by rfl) :
    EV X c (.Call (.Name "isinstance" p) [a, .Tuple [.Name (Str.ofString T.nm) p2, .Name (Str.ofString U.nm) p3] k0 p4] [] pos) (eIsi2 T U f) := by
  refine pe_imp (pe_callB call_isiT hi hmi (by decide +kernel) (pa_cons ha (pa_cons (pe_tup (pa_cons (pe_ty hg hm) (pa_cons (pe_ty hg2 hm2) pa_nil))) pa_nil) he) (by decide) (by decide) he rfl) fun σ H Q q => ?_
  refine tOf.first (R := RH _) (R' := RE _) (k := fun s x L1 => ret ((isi T x).bind fun b => (isi U x).map fun d => PV.bl (b || d)) L1) q fun ρ L s x L1 ρ1 H1 v r e1 q1 o => ?_
  obtain ⟨z, hz, k⟩ := Ou.ret o
  cases hb : isi T x with
  | none => rw [hb] at hz; cases hz
  | some b =>
    rw [hb] at hz
    cases hd : isi U x with
    | none => rw [hd] at hz; cases hz
    | some d =>
      rw [hd] at hz
      cases hz
      refine ⟨by show 2 ≤ sizeLine; decide, fun t ht => ?_⟩
      have q2 := HRep.ext (Ext.new (ρ := ρ1) (u := .tup [.ty T.nm, .ty U.nm]) ht) q1
      obtain ⟨n, h1, h2⟩ := isi_of (G := gx X c.kt) q2 hb
      refine ⟨v, t, [.ty T.nm, .ty U.nm], .type n, [.type T.nm, .type U.nm], b || d, rfl, upd_same, .cons (.ty _) (.cons (.ty _) .nil), h1, ?_, k ρ1 _ _ (Ext.new ht) (r.st.new ht) rfl⟩
      exact kitAny_cons (h2 _ _ hb) (fun e => by subst e; exact kitAny_cons (h2 _ _ hd) (fun e => by subst e; exact kitAny_nil) fun e => by subst e; rfl) fun e => by subst e; rfl
end
end Fx

set_option Elab.async false
set_option linter.all false
set_option maxRecDepth 100000
set_option maxHeartbeats 1000000
/-! Fx part 8: what is walked; targets; list comprehensions. -/
namespace Fx
open PySem L2

/-! ### what a walk gives -/
/-- a value, or (raw) a new plain tuple of values, which is unpacked at once -/
def RepX (G : Gx) (raw : Bool) (ρ : List Addr) (H : Hp) (x : PV) (v : V) : Prop := Rep G ρ H x v ∨ (raw = true ∧ ∃ xs a vs, x = .tup xs ∧ v = .ref a ∧ H a = some (.tup vs) ∧ Reps G ρ H xs vs)
def Yl (G : Gx) (raw : Bool) (ρ : List Addr) (H : Hp) (J : It) (xs : List PV) : Prop := ∀ i ρ1 H1, Stb ρ ρ1 H H1 →
  (∀ h : i < xs.length, J.go i H1 ∧ ∀ x H2, J.yld i H1 x H2 → (∀ a o, H1 a = some o → H2 a = some o) ∧ RepX G raw ρ1 H2 xs[i] x) ∧ (xs.length ≤ i → J.stop i H1)
def RI (G : Gx) (raw : Bool) : RT (List PV) It := fun _ ρ' H' xs J => Yl G raw ρ' H' J xs
instance {G : Gx} {raw : Bool} : RM (RI G raw) := ⟨fun _ h => h⟩
def IV (X : Cx) (c : FC) (raw : Bool) (tg iter : Expr) (f : AF) : Prop := PI X tg iter (tOf (gx X c.kt) (RI (gx X c.kt) raw) c.r0 c.H0 c.W f)

section
variable {X : Cx} {c : FC} {tg e e2 : Expr} {g g2 : EF} {pos p tpos apos cpos : Pos}
/-- a list, a tuple, a text -/
def iSeq (K : PySem.W.Frag) (tl : TE) : TI := fun σ H R => tl σ H fun x H1 => (∃ a, x = .ref a ∧ (∃ xs, SqL K H1 a xs) ∧ R (Itl K a) H1) ∨ (∃ a, x = .ref a ∧ (∃ xs, SqT K H1 a xs) ∧ R (Itt K a) H1) ∨ ∃ z, x = .str z ∧ R (Its z) H1
theorem pi_seq {l : Expr} {tl : TE} (hl : PE X l tl) : PI X tg l (iSeq X.K tl) := by
  refine ⟨fun pins s σ H R I h => ?_⟩
  refine thn (hl.run pins s σ H _ I h) fun v s1 ⟨x, H1, I1, r1, q1⟩ => ?_
  rcases q1 with ⟨a, e, ⟨xs, hq⟩, q⟩ | ⟨a, e, ⟨xs, hq⟩, q⟩ | ⟨z, e, q⟩
  · subst e
    cases r1
    obtain ⟨its, rv, p, hz⟩ := I1.list hq
    refine wpAny_pyIter_list p.isList ?_
    refine ⟨s1.heap.objs.size, [s1.heap.objs.size], _, _, H1, rfl, I1.kept (t' := s1.toks) fun b o e => Heap.get?_push_of_some _ e, turn_list a _, ⟨_, Heap.get?_push_size _ rfl, rfl, rfl⟩, fun b hb => ?_, q⟩
    have e : b = s1.heap.objs.size := by simpa using hb
    subst e
    exact I1.fpOk (Nat.le_refl _) (I1.hok.fresh (Nat.le_refl _))
  · subst e
    cases r1
    obtain ⟨its, rv, p, hz⟩ := I1.tuple hq
    refine wpAny_pyIter_tuple (show s1.heap.IsTuple a its.toArray from p) ?_
    refine ⟨s1.heap.objs.size, [s1.heap.objs.size], _, _, H1, rfl, I1.kept (t' := s1.toks) fun b o e => Heap.get?_push_of_some _ e, turn_tuple a _, ⟨_, Heap.get?_push_size _ rfl, rfl, rfl⟩, fun b hb => ?_, q⟩
    have e : b = s1.heap.objs.size := by simpa using hb
    subst e
    exact I1.fpOk (Nat.le_refl _) (I1.hok.fresh (Nat.le_refl _))
  · subst e
    obtain ⟨t, rfl⟩ := r1
    cases ha : z.cps.all (· < 128)
    · exact wpAny_pyIter_wide ha (pi_one (tk := s1.toks) I1 _ (turn_str _ z t "str_iterator" (.inr rfl)) ⟨_, Heap.get?_push_size _ rfl, rfl, rfl⟩ q)
    · exact wpAny_pyIter_ascii ha (pi_one (tk := s1.toks) I1 _ (turn_str _ z t "str_ascii_iterator" (.inl rfl)) ⟨_, Heap.get?_push_size _ rfl, rfl, rfl⟩ q)
def itemsOf : PV → Option (List PV)
  | .lst xs => some xs
  | .tup xs => some xs
  | .str z => some (z.cps.toList.map fun c => .str ⟨#[c]⟩)
  | _ => none
def iE (g : EF) : AF := fun s L => bnd (g s L) fun v L1 => ret (itemsOf v) L1
theorem frzL {ρ ρ1 : List Addr} {H H1 : Hp} {a : Addr} {o : Obj} {vs : List V} (e : Stb ρ ρ1 H H1) (hn : a ∉ ρ) (h : H a = some (.frz o (.lst vs))) (K : PySem.W.Frag) : SqL K H1 a vs := .inl (.inr ⟨o, e.frz _ _ _ hn h⟩)
theorem tupL {G : Gx} {ρ ρ1 : List Addr} {H H1 : Hp} {a : Addr} {vs : List V} (e : Stb ρ ρ1 H H1) (h : TupAt G ρ H a vs) : SqT G.K H1 a vs := KTup.sq (h.mono0 e.to0)
theorem iv_e (h : EV X c e g) : IV X c false tg e (iE g) := by
  refine pi_imp (pi_seq h) fun σ H R q => ?_
  refine tOf.first (R := RE _) (R' := RI _ _) (k := fun s v L1 => ret (itemsOf v) L1) q fun ρ L s v L1 ρ1 H1 u r e1 q1 o => ?_
  obtain ⟨xs, hx, k⟩ := Ou.ret o
  cases v with
  | lst ys =>
    cases hx
    obtain ⟨a, ob, vs, rfl, hn, ha, hs⟩ := q1
    refine .inl ⟨a, rfl, ⟨vs, frzL Stb.refl hn ha _⟩, k ρ1 H1 _ Ext.refl r.st fun i ρ2 H2 st => ⟨fun hi => ⟨?_, fun x H3 hy => ?_⟩, fun hi => ⟨vs, frzL st hn ha _, by rw [← hs.length]; exact hi⟩⟩⟩
    · obtain ⟨w, hw, _⟩ := hs.get (i := i) (x := xs[i]) (by simp [hi])
      exact ⟨vs, w, frzL st hn ha _, hw⟩
    · obtain ⟨rfl, hy⟩ := hy
      obtain ⟨w, hw, rw'⟩ := hs.get (i := i) (x := xs[i]) (by simp [hi])
      have := hy vs (frzL st hn ha _)
      rw [hw] at this; cases this
      exact ⟨fun _ _ z => z, .inl (rw'.mono st)⟩
  | tup ys =>
    cases hx
    obtain ⟨a, vs, rfl, ha, hs⟩ := q1
    refine .inr (.inl ⟨a, rfl, ⟨vs, KTup.sq (G := gx X c.kt) ha⟩, k ρ1 H1 _ Ext.refl r.st fun i ρ2 H2 st => ⟨fun hi => ⟨?_, fun x H3 hy => ?_⟩, fun hi => ⟨vs, tupL (G := gx X c.kt) st ha, by rw [← hs.length]; exact hi⟩⟩⟩)
    · obtain ⟨w, hw, _⟩ := hs.get (i := i) (x := xs[i]) (by simp [hi])
      exact ⟨vs, w, tupL (G := gx X c.kt) st ha, hw⟩
    · obtain ⟨rfl, hy⟩ := hy
      obtain ⟨w, hw, rw'⟩ := hs.get (i := i) (x := xs[i]) (by simp [hi])
      have := hy vs (tupL (G := gx X c.kt) st ha)
      rw [hw] at this; cases this
      exact ⟨fun _ _ z => z, .inl (rw'.mono st)⟩
  | str z =>
    cases hx
    obtain rfl : u = .str z := q1
    refine .inr (.inr ⟨z, rfl, k ρ1 H1 _ Ext.refl r.st fun i ρ2 H2 st => ⟨fun hi => ⟨?_, fun x H3 hy => ?_⟩, fun hi => ?_⟩⟩)
    · show i < z.cps.size
      simpa using hi
    · obtain ⟨rfl, d, hd, rfl⟩ := hy
      refine ⟨fun _ _ z => z, .inl ?_⟩
      have : (z.cps.toList.map fun c => PV.str ⟨#[c]⟩)[i] = .str ⟨#[d]⟩ := by
        have hd' : z.cps.toList[i]? = some d := by rw [Array.getElem?_toList]; exact hd
        rw [List.getElem_map]
        have := List.getElem?_eq_some_iff.mp hd'
        obtain ⟨h1, h2⟩ := this
        rw [h2]
      rw [this]
      rfl
    · show z.cps.size ≤ i
      simpa using hi
  | _ => cases hx
/-- range(n), range(a, b) -/
def rgItems (a : Int) (n : Nat) : List PV := (List.range n).map fun i => PV.int (a + (i : Nat))
def iRg1 (g : EF) : AF := fun s L => bnd (g s L) fun v L1 => match v with
  | .int j => if -(2 ^ 62) ≤ j ∧ j < 2 ^ 62 then some (.ok (rgItems 0 j.toNat) L1) else none
  | _ => none
def iRg2 (g g2 : EF) : AF := fun s L => bnd (g s L) fun v L1 => bnd (g2 s L1) fun w L2 => match v, w with
  | .int i, .int j => if (-(2 ^ 62) ≤ i ∧ i < 2 ^ 62) ∧ -(2 ^ 62) ≤ j ∧ j < 2 ^ 62 then some (.ok (rgItems i (j - i).toNat) L2) else none
  | _, _ => none
theorem yl_range {G : Gx} {ρ : List Addr} {H : Hp} {a : Int} {n : Nat} : Yl G false ρ H (Itr a n) (rgItems a n) := by
  intro i ρ1 H1 st
  have hl : (rgItems a n).length = n := by simp [rgItems]
  refine ⟨fun hi => ⟨by rw [hl] at hi; exact hi, fun x H2 hy => ?_⟩, fun hi => by rw [hl] at hi; exact hi⟩
  obtain ⟨rfl, rfl⟩ := hy
  refine ⟨fun _ _ z => z, .inl ?_⟩
  simp only [rgItems, List.getElem_map, List.getElem_range]
  rfl
theorem iv_range1 (hg : Gl X "range") (hm : X.mg "range" = none) (h : EV X c e g) (hs : starEach [e] X.env = [(false, eval e X.env)] := by rfl) (hs' : starEach (e :: []) X.env = (false, eval e X.env) :: starEach [] X.env := by rfl) : IV X c false tg (.Call (.Name "range" p) [e] [] pos) (iRg1 g) := by
  refine pi_imp (pi_range1 hg hm (pa_cons h pa_nil hs') hs) fun σ H R q => ?_
  refine tOf.first (R := RE _) (R' := RI _ _) (k := fun s v L1 => match v with
    | .int j => if -(2 ^ 62) ≤ j ∧ j < 2 ^ 62 then some (.ok (rgItems 0 j.toNat) L1) else none
    | _ => none) q fun ρ L s v L1 ρ1 H1 u r e1 q1 o => ?_
  split at o
  · rename_i j
    split at o
    · rename_i hj
      obtain rfl : u = .int j := q1
      exact ⟨j, rfl, hj.1, hj.2, o ρ1 H1 _ Ext.refl r.st yl_range⟩
    · exact o.elim
  · exact o.elim
theorem iv_range2 (hg : Gl X "range") (hm : X.mg "range" = none) (h : EV X c e g) (h2 : EV X c e2 g2) (hs : starEach [e, e2] X.env = [(false, eval e X.env), (false, eval e2 X.env)] := by rfl) (hs2 : starEach [e2] X.env = [(false, eval e2 X.env)] := by rfl)
    (hs' : starEach (e :: [e2]) X.env = (false, eval e X.env) :: starEach [e2] X.env := by rfl) (hs2' : starEach (e2 :: []) X.env = (false, eval e2 X.env) :: starEach [] X.env := by rfl) : IV X c false tg (.Call (.Name "range" p) [e, e2] [] pos) (iRg2 g g2) := by
  refine pi_imp (pi_range2 hg hm (pa_cons h (pa_cons h2 pa_nil hs2') hs') hs hs2) fun σ H R q => ?_
  refine tOf.first (R := RE _) (R' := RI _ _) (k := fun s v L1 => bnd (g2 s L1) fun w L2 => match v, w with
    | .int i, .int j => if (-(2 ^ 62) ≤ i ∧ i < 2 ^ 62) ∧ -(2 ^ 62) ≤ j ∧ j < 2 ^ 62 then some (.ok (rgItems i (j - i).toNat) L2) else none
    | _, _ => none) q fun ρ L s v L1 ρ1 H1 u r e1 q1 o => ?_
  refine ⟨ρ1, L1, s, r, Ou.bind (R := RE _) (R' := RI _ _) o fun w L2 ρ2 H2 u2 _ e2 t2 q2 o2 => ?_⟩
  cases v with
  | int i =>
    cases w with
    | int j =>
      dsimp only at o2
      split at o2
      · rename_i hj
        obtain rfl : u = .int i := q1
        obtain rfl : u2 = .int j := q2
        exact ⟨i, j, rfl, ⟨hj.1.1, hj.1.2, hj.2.1, hj.2.2⟩, o2 ρ2 H2 _ Ext.refl t2 yl_range⟩
      · exact o2.elim
    | _ => exact o2.elim
  | _ => cases w <;> exact o2.elim
/-- zip of two lists, two tuples -/
def zipP (xs ys : List PV) : List PV := (xs.zip ys).map fun p => PV.tup [p.1, p.2]
def hZip : PV → PV → Option (List PV)
  | .lst xs, .lst ys => some (zipP xs ys)
  | .tup xs, .tup ys => some (zipP xs ys)
  | _, _ => none
def iZp (g g2 : EF) : AF := fun s L => bnd (g s L) fun v L1 => bnd (g2 s L1) fun w L2 => ret (hZip v w) L2
theorem zipP_get {xs ys : List PV} {i : Nat} (h : i < (zipP xs ys).length) : ∃ x y, xs[i]? = some x ∧ ys[i]? = some y ∧ (zipP xs ys)[i] = .tup [x, y] := by
  have hl : i < xs.length ∧ i < ys.length := by
    simp [zipP] at h
    omega
  exact ⟨xs[i], ys[i], by simp [hl.1], by simp [hl.2], by simp [zipP]⟩
theorem iv_zip {elts : List Expr} {kk : Nat} (hg : Gl X "zip") (hm : X.mg "zip" = none) (h : EV X c e g) (h2 : EV X c e2 g2) (hs : starEach [e, e2] X.env = (false, eval e X.env) :: starEach [e2] X.env := by rfl) (hs2' : starEach (e2 :: []) X.env = (false, eval e2 X.env) :: starEach [] X.env := by rfl) (hpl : (backTo pos (starEach [e2] X.env)).any (·.1) = false := by rfl) :
    IV X c true (.Tuple elts kk tpos) (.Call (.Name "zip" p) [e, e2] [] pos) (iZp g g2) := by
  refine pi_imp (RZ.pi_zipA hg hm (pa_cons h (pa_cons h2 pa_nil hs2') hs) hs hpl) fun σ H R q => ?_
  refine tOf.first (R := RE _) (R' := RI _ _) (k := fun s v L1 => bnd (g2 s L1) fun w L2 => ret (hZip v w) L2) q fun ρ L s v L1 ρ1 H1 u r e1 q1 o => ?_
  refine ⟨ρ1, L1, s, r, Ou.bind (R := RE _) (R' := RI _ _) o fun w L2 ρ2 H2 u2 _ e2 t2 q2 o2 => ?_⟩
  obtain ⟨zs, hz, k⟩ := Ou.ret o2
  have q1 := Rep.mono e2.toStb q1
  cases v with
  | lst xs =>
    cases w with
    | lst ys =>
      cases hz
      obtain ⟨a, oa, vs, rfl, na, ha, hxs⟩ := q1
      obtain ⟨b, ob, ws, rfl, nb, hb, hys⟩ := q2
      refine ⟨a, b, vs, ws, rfl, .inl ⟨frzL Stb.refl na ha _, frzL Stb.refl nb hb _, k ρ2 H2 _ Ext.refl t2 fun i ρ3 H3 st => ⟨fun hi => ?_, fun hi => ⟨vs, ws, frzL st na ha _, frzL st nb hb _, ?_⟩⟩⟩⟩
      · obtain ⟨x, y, hx, hy, he⟩ := zipP_get hi
        obtain ⟨vx, hvx, rx⟩ := hxs.get hx
        obtain ⟨vy, hvy, ry⟩ := hys.get hy
        refine ⟨⟨vs, ws, vx, vy, frzL st na ha _, frzL st nb hb _, hvx, hvy⟩, fun z H4 hyl => ?_⟩
        obtain ⟨T, x', y', rfl, hT, rfl, k1, k2⟩ := hyl
        have e3 := k1 vs (frzL st na ha _)
        rw [hvx] at e3; cases e3
        have e4 := k2 ws (frzL st nb hb _)
        rw [hvy] at e4; cases e4
        refine ⟨fun a o h => by rw [upd_ne (ne_of_none h hT)]; exact h, ?_⟩
        rw [he]
        exact .inr ⟨rfl, [x, y], T, [vx, vy], rfl, rfl, upd_same, (Reps.cons (rx.mono st) (.cons (ry.mono st) .nil)).mono (Ext.new hT).toStb⟩
      · have h1 := hxs.length
        have h2 := hys.length
        simp [zipP] at hi
        omega
    | _ => cases hz
  | tup xs =>
    cases w with
    | tup ys =>
      cases hz
      obtain ⟨a, vs, rfl, ha, hxs⟩ := q1
      obtain ⟨b, ws, rfl, hb, hys⟩ := q2
      refine ⟨a, b, vs, ws, rfl, .inr ⟨KTup.sq (G := gx X c.kt) ha, KTup.sq (G := gx X c.kt) hb, k ρ2 H2 _ Ext.refl t2 fun i ρ3 H3 st => ⟨fun hi => ?_, fun hi => ⟨vs, ws, tupL (G := gx X c.kt) st ha, tupL (G := gx X c.kt) st hb, ?_⟩⟩⟩⟩
      · obtain ⟨x, y, hx, hy, he⟩ := zipP_get hi
        obtain ⟨vx, hvx, rx⟩ := hxs.get hx
        obtain ⟨vy, hvy, ry⟩ := hys.get hy
        refine ⟨⟨vs, ws, vx, vy, tupL (G := gx X c.kt) st ha, tupL (G := gx X c.kt) st hb, hvx, hvy⟩, fun z H4 hyl => ?_⟩
        obtain ⟨T, x', y', rfl, hT, rfl, k1, k2⟩ := hyl
        have e3 := k1 vs (tupL (G := gx X c.kt) st ha)
        rw [hvx] at e3; cases e3
        have e4 := k2 ws (tupL (G := gx X c.kt) st hb)
        rw [hvy] at e4; cases e4
        refine ⟨fun a o h => by rw [upd_ne (ne_of_none h hT)]; exact h, ?_⟩
        rw [he]
        exact .inr ⟨rfl, [x, y], T, [vx, vy], rfl, rfl, upd_same, (Reps.cons (rx.mono st) (.cons (ry.mono st) .nil)).mono (Ext.new hT).toStb⟩
      · have h1 := hxs.length
        have h2 := hys.length
        simp [zipP] at hi
        omega
    | _ => cases hz
  | _ => cases hz
end

/-! ### targets -/
abbrev TGF := PV → Slots → Option Slots
def gOf (G : Gx) (raw : Bool) (r0 : List Addr) (H0 : Hp) (t : TGF) (ix : List Nat) : TG := fun v σ H Q => ∃ ρ L s x s', RR G r0 H0 ρ L s σ H ∧ RepX G raw ρ H x v ∧ t x s = some s' ∧
  ∀ σ', RR G r0 H0 ρ L s' σ' H → σ'.length = σ.length → (∀ j, j ∉ ix → σ'[j]? = σ[j]?) → Q σ' H
def gsOf (G : Gx) (r0 : List Addr) (H0 : Hp) (t : List PV → Slots → Option Slots) (ix : List Nat) : TGs := fun vs σ H Q => ∃ ρ L s xs s', RR G r0 H0 ρ L s σ H ∧ Reps G ρ H xs vs ∧ t xs s = some s' ∧
  ∀ σ', RR G r0 H0 ρ L s' σ' H → σ'.length = σ.length → (∀ j, j ∉ ix → σ'[j]? = σ[j]?) → Q σ' H
def GV (X : Cx) (c : FC) (raw : Bool) (tg : Expr) (t : TGF) (ix : List Nat) : Prop := PG X tg (gOf (gx X c.kt) raw c.r0 c.H0 t ix)
def GVs (X : Cx) (c : FC) (tg : List Expr) (t : List PV → Slots → Option Slots) (ix : List Nat) : Prop := PGs X tg (gsOf (gx X c.kt) c.r0 c.H0 t ix)
def gNm (i : Nat) : TGF := fun x s => some (s.set i (.val x))
def gNls : List PV → Slots → Option Slots := fun xs s => match xs with
  | [] => some s
  | _ => none
def gCns (t : TGF) (u : List PV → Slots → Option Slots) : List PV → Slots → Option Slots := fun xs s => match xs with
  | x :: r => (t x s).bind (u r)
  | [] => none
def gTp (u : List PV → Slots → Option Slots) : TGF := fun x s => match x with
  | .tup xs => u xs s
  | _ => none
def gLs (u : List PV → Slots → Option Slots) : TGF := fun x s => match x with
  | .lst xs => u xs s
  | _ => none
theorem pg_imp {X : Cx} {tg : Expr} {t t' : TG} (h : PG X tg t) (i : ∀ v σ H Q, t' v σ H Q → t v σ H Q) : PG X tg t' := ⟨fun pins s σ H v u Q I r q => h.run pins s σ H v u Q I r (i v σ H Q q)⟩
theorem pgs_imp {X : Cx} {tg : List Expr} {t t' : TGs} (h : PGs X tg t) (i : ∀ v σ H Q, t' v σ H Q → t v σ H Q) : PGs X tg t' := ⟨fun pins s σ H v u Q I r q => h.run pins s σ H v u Q I r (i v σ H Q q)⟩
theorem Rsl.set {G : Gx} {H0 : Hp} {ρ : List Addr} {s : Slots} {σ : St} {H : Hp} {β : Nat → Addr} (r : Rsl G H0 ρ s σ H β) {i : Nat} {x : PV} {v : V} (h : Rep G ρ H x v) : Rsl G H0 ρ (s.set i (.val x)) (σ.set i (some v)) H β := by
  have hl := r.len
  refine ⟨by simp [hl], fun j w e => ?_, fun j d e => ?_, fun j k d d' e e' q => ?_⟩
  · by_cases hj : i = j
    · subst hj
      by_cases hi : i < s.length
      · rw [List.getElem?_set_self hi] at e
        cases e
        exact ⟨v, by rw [List.getElem?_set_self (by omega)], h⟩
      · rw [List.getElem?_eq_none (by simp; omega)] at e; cases e
    · rw [List.getElem?_set_ne hj] at e
      rw [List.getElem?_set_ne hj]
      exact r.val j w e
  · by_cases hj : i = j
    · subst hj
      by_cases hi : i < s.length
      · rw [List.getElem?_set_self hi] at e; cases e
      · rw [List.getElem?_eq_none (by simp; omega)] at e; cases e
    · rw [List.getElem?_set_ne hj] at e
      rw [List.getElem?_set_ne hj]
      exact r.own j d e
  · have h1 : i ≠ j := fun z => by
      subst z
      by_cases hi : i < s.length
      · rw [List.getElem?_set_self hi] at e; cases e
      · rw [List.getElem?_eq_none (by simp; omega)] at e; cases e
    have h2 : i ≠ k := fun z => by
      subst z
      by_cases hi : i < s.length
      · rw [List.getElem?_set_self hi] at e'; cases e'
      · rw [List.getElem?_eq_none (by simp; omega)] at e'; cases e'
    rw [List.getElem?_set_ne h1] at e
    rw [List.getElem?_set_ne h2] at e'
    exact r.inj j k d d' e e' q
theorem RR.set {G : Gx} {r0 ρ : List Addr} {H0 H : Hp} {L : Store} {s : Slots} {σ : St} (r : RR G r0 H0 ρ L s σ H) {i : Nat} {x : PV} {v : V} (h : Rep G ρ H x v) : RR G r0 H0 ρ L (s.set i (.val x)) (σ.set i (some v)) H :=
  ⟨r.st, let ⟨β, q⟩ := r.sl; ⟨β, q.set h⟩, r.ext⟩
section
variable {X : Cx} {c : FC} {pos : Pos} {t : TGF} {u : List PV → Slots → Option Slots} {ix ix' : List Nat} {e : Expr} {es : List Expr}
theorem gv_nm {i : Nat} {x : Str} (hN : X.N.Nodup) (hi : X.N[i]? = some x) (hx : Loc X.env.scope x) (hf : X.fn x = true ∨ X.env.scope.names.lookup x = some .local := by first | exact .inl rfl | exact .inr rfl | assumption) : GV X c false (.Name x pos) (gNm i) [i] := by
  refine pg_imp (pg_name hN hi hx hf) fun v σ H Q h => ?_
  obtain ⟨ρ, L, s, x, s', r, rx | ⟨rx, _⟩, e, k⟩ := h
  rotate_left
  · cases rx
  cases e
  exact k _ (r.set rx) (by simp) fun j hj => List.getElem?_set_ne (by simpa using Ne.symm (by simpa using hj))
theorem gvs_nil : GVs X c [] gNls [] := by
  refine pgs_imp pgs_nil fun vs σ H Q h => ?_
  obtain ⟨ρ, L, s, xs, s', r, rx, e, k⟩ := h
  cases xs with
  | nil => cases e; exact ⟨rx, k σ r rfl fun _ _ => rfl⟩
  | cons _ _ => cases e
theorem gvs_cons (h1 : GV X c false e t ix) (h2 : GVs X c es u ix') (hs : (assignEach (e :: es) X.env).map (·.2) = assign e X.env :: (assignEach es X.env).map (·.2) := by rfl) : GVs X c (e :: es) (gCns t u) (ix ++ ix') := by
  refine pgs_imp (pgs_cons h1 h2 hs) fun vs σ H Q h => ?_
  obtain ⟨ρ, L, s, xs, s', r, rx, e, k⟩ := h
  cases xs with
  | nil => cases e
  | cons x xs =>
    obtain ⟨v, vr, rfl, r1, r2⟩ := rx
    have e : (t x s).bind (u xs) = some s' := e
    cases ht : t x s with
    | none => rw [ht] at e; cases e
    | some s1 =>
      rw [ht] at e
      refine ⟨v, vr, rfl, ρ, L, s, x, s1, r, .inl r1, ht, fun σ1 R1 hl1 hj1 => ⟨ρ, L, s1, xs, s', R1, r2, e, fun σ2 R2 hl2 hj2 => k σ2 R2 (hl2.trans hl1) fun j hj => ?_⟩⟩
      rw [List.mem_append] at hj
      rw [hj2 j (fun z => hj (.inr z)), hj1 j fun z => hj (.inl z)]
theorem gv_tp {raw : Bool} {k : Nat} {n : Nat} (hc : X.calm = true) (h : GVs X c es u ix) (hn : (assignEach es X.env).length = n := by rfl) (hst : (assignEach es X.env).findIdx? (·.1) = none := by rfl)
    (hu : ∀ xs s s', u xs s = some s' → xs.length = n) : GV X c raw (.Tuple es k pos) (gTp u) ix := by
  refine pg_imp (pg_tup hc h hn hst) fun v σ H Q q => ?_
  obtain ⟨ρ, L, s, x, s', r, rx, e, k⟩ := q
  cases x with
  | tup xs =>
    rcases rx with ⟨a, vs, rfl, ha, hs⟩ | ⟨_, xs', a, vs, ex, rfl, ha, hs⟩
    · exact ⟨a, vs, rfl, KTup.sq ha, by rw [← hs.length]; exact hu _ _ _ e, ρ, L, s, xs, s', r, hs, e, k⟩
    · cases ex
      exact ⟨a, vs, rfl, .inl (.inl ha), by rw [← hs.length]; exact hu _ _ _ e, ρ, L, s, xs, s', r, hs, e, k⟩
  | _ => cases e
theorem gv_ls {raw : Bool} {k : Nat} {n : Nat} (hc : X.calm = true) (h : GVs X c es u ix) (hn : (assignEach es X.env).length = n := by rfl) (hst : (assignEach es X.env).findIdx? (·.1) = none := by rfl)
    (hu : ∀ xs s s', u xs s = some s' → xs.length = n) : GV X c raw (.Tuple es k pos) (gLs u) ix := by
  refine pg_imp (pg_unl hc h hn hst) fun v σ H Q q => ?_
  obtain ⟨ρ, L, s, x, s', r, rx, e, k⟩ := q
  cases x with
  | lst xs =>
    rcases rx with ⟨a, o, vs, rfl, hn, ha, hs⟩ | ⟨_, xs', a, vs, ex, _⟩
    rotate_left
    · cases ex
    exact ⟨a, vs, rfl, .inl (.inr ⟨o, ha⟩), by rw [← hs.length]; exact hu _ _ _ e, ρ, L, s, xs, s', r, hs, e, k⟩
  | _ => cases e
theorem gl_nil : ∀ xs s s', gNls xs s = some s' → xs.length = 0 := fun xs s s' h => by
  cases xs with
  | nil => rfl
  | cons _ _ => cases h
theorem gl_cons {n : Nat} (h : ∀ xs s s', u xs s = some s' → xs.length = n) : ∀ xs s s', gCns t u xs s = some s' → xs.length = n + 1 := fun xs s s' e => by
  cases xs with
  | nil => cases e
  | cons x xs =>
    have e : (t x s).bind (u xs) = some s' := e
    cases ht : t x s with
    | none => rw [ht] at e; cases e
    | some s1 => rw [ht] at e; simp [h _ _ _ e]
end
end Fx

set_option Elab.async false
set_option linter.all false
set_option maxRecDepth 100000
set_option maxHeartbeats 1000000
/-! Fx part 9: list comprehensions. -/
namespace Fx
open PySem L2

/-- .. where nothing is raised -/
def bndN {α β : Type} (r : Option (Res α)) (k : α → Store → Option (Res β)) : Option (Res β) :=
  match r with
  | some (.ok a L) => k a L
  | _ => none
theorem bndN_ok {α β : Type} {a : α} {L : Store} {k : α → Store → Option (Res β)} : bndN (some (.ok a L)) k = k a L := rfl
abbrev FC.nox (c : FC) : FC := { c with W := fun _ _ _ _ => False }
def wipeS (s : Slots) : List Nat → Slots
  | [] => s
  | v :: vs => (wipeS s vs).set v .no
def cLoop (t : TGF) (p : BF) (g : EF) (s : Slots) : List PV → List PV → Store → Option (Res Cell)
  | [], acc, L => some (.ok (.lst acc) L)
  | x :: r, acc, L => match t x s with
    | none => none
    | some s1 => bndN (p s1 L) fun b L1 => if b = true then bndN (g s1 L1) fun y L2 => if acc.length < sizeLine then cLoop t p g s r (acc ++ [y]) L2 else none else cLoop t p g s r acc L1
def nComp (fi : AF) (t : TGF) (p : BF) (g : EF) (vs : List Nat) : CF := fun s L => bnd (fi s L) fun xs L1 => cLoop t p g (wipeS s vs) xs [] L1
def pYes : BF := fun _ L => some (.ok true L)
def TVs (X : Cx) (c : FC) (es : List Expr) (p : BF) : Prop := PTs X es (tOf (gx X c.kt) RB c.r0 c.H0 c.W p)
theorem pts_imp {X : Cx} {es : List Expr} {t t' : TT} (h : PTs X es t) (i : ∀ σ H Q, t' σ H Q → t σ H Q) : PTs X es t' := ⟨fun pins s σ H Q I q => h.run pins s σ H Q I (i σ H Q q)⟩
theorem tvs_nil {X : Cx} {c : FC} : TVs X c [] pYes := pts_imp pts_nil fun σ H Q h => by
  obtain ⟨ρ, L, s, r, o⟩ := h
  exact o ρ H _ Ext.refl r.st rfl
theorem tvs_one {X : Cx} {c : FC} {e : Expr} {p : BF} (h : TV X c e p) : TVs X c [e] p := pts_one h

theorem Rsl.no {G : Gx} {H0 : Hp} {ρ : List Addr} {s : Slots} {σ : St} {H : Hp} {β : Nat → Addr} (r : Rsl G H0 ρ s σ H β) {i : Nat} {o : Option V} : Rsl G H0 ρ (s.set i .no) (σ.set i o) H β := by
  have hl := r.len
  have key : ∀ (j : Nat) (x : SV), x ≠ .no → (s.set i .no)[j]? = some x → i ≠ j ∧ s[j]? = some x := fun j x hx e => by
    have hj : i ≠ j := fun z => by
      subst z
      by_cases hi : i < s.length
      · rw [List.getElem?_set_self hi] at e; cases e; exact hx rfl
      · rw [List.getElem?_eq_none (by simp; omega)] at e; cases e
    exact ⟨hj, by rwa [List.getElem?_set_ne hj] at e⟩
  refine ⟨by simp [hl], fun j w e => ?_, fun j d e => ?_, fun j k d d' e e' q => ?_⟩
  · obtain ⟨hj, e⟩ := key j _ (by simp) e
    rw [List.getElem?_set_ne hj]
    exact r.val j w e
  · obtain ⟨hj, e⟩ := key j _ (by simp) e
    rw [List.getElem?_set_ne hj]
    exact r.own j d e
  · exact r.inj j k d d' (key j _ (by simp) e).2 (key k _ (by simp) e').2 q
theorem RR.wipe {G : Gx} {r0 ρ : List Addr} {H0 H : Hp} {L : Store} {s : Slots} {σ : St} (r : RR G r0 H0 ρ L s σ H) : ∀ vs : List Nat, RR G r0 H0 ρ L (wipeS s vs) (L2.wipe σ vs) H
  | [] => r
  | v :: vs =>
    let q := RR.wipe r vs
    ⟨q.st, let ⟨β, z⟩ := q.sl; ⟨β, z.no⟩, q.ext⟩
theorem wipe_at (σ : St) (vs : List Nat) (j : Nat) : (wipe σ vs)[j]? = if j ∈ vs ∧ j < σ.length then some none else σ[j]? := by
  induction vs with
  | nil => simp [wipe]
  | cons v vs ih =>
    unfold wipe
    by_cases hv : v = j
    · subst hv
      by_cases hl : v < σ.length
      · rw [List.getElem?_set_self (by rw [wipe_length]; exact hl), if_pos ⟨by simp, hl⟩]
      · rw [List.getElem?_eq_none (by rw [List.length_set, wipe_length]; omega), if_neg (fun z => hl z.2), List.getElem?_eq_none (by omega)]
    · rw [List.getElem?_set_ne hv, ih]
      have : (j ∈ v :: vs) ↔ j ∈ vs := by simp [Ne.symm hv]
      simp [this]
theorem wipe_eq {σ τ : St} {vs : List Nat} (hl : τ.length = σ.length) (h : ∀ j, j ∉ vs → τ[j]? = (wipe σ vs)[j]?) : wipe τ vs = wipe σ vs := by
  apply List.ext_getElem?
  intro j
  rw [wipe_at, wipe_at]
  by_cases hj : j ∈ vs
  · by_cases h2 : j < σ.length
    · rw [if_pos ⟨hj, by omega⟩, if_pos ⟨hj, h2⟩]
    · rw [if_neg (fun z => h2 (by omega)), if_neg (fun z => h2 z.2), List.getElem?_eq_none (by omega), List.getElem?_eq_none (by omega)]
  · have := h j hj
    rw [wipe_at, if_neg (fun z => hj z.1)] at this
    rw [if_neg (fun z => hj z.1), if_neg (fun z => hj z.1), this]
theorem Rst.same {G : Gx} {ρ : List Addr} {L : Store} {H H' : Hp} (r : Rst G ρ L H) (k : ∀ a o, H a = some o → H' a = some o) : Rst G ρ L H' :=
  r.keep (Ext.same k).toStb fun a ha => by
    obtain ⟨o, e, _⟩ := r.live ha
    rw [e, k a o e]

section
variable {X : Cx} {c : FC} {elt tg iter : Expr} {ifs : List Expr} {scope : Scope} {own : List (Str × Nat)} {pos : Pos} {fi : AF} {t : TGF} {ix : List Nat} {p : BF} {g : EF}
/-- the state ahead of a turn -/
def CI (G : Gx) (W : WX) (t : TGF) (p : BF) (g : EF) (s : Slots) (ρ1 : List Addr) (σ : St) (H1 : Hp) (Q : VK) (D : Addr) (xs : List PV) (i : Nat) (H : Hp) : Prop :=
  ∃ ρ L acc av, Ext ρ1 ρ H1 H ∧ Rst G ρ L H ∧ D ∉ ρ ∧ H D = some (.lst av) ∧ Reps G ρ H acc av ∧ Ou G (RN G) W ρ1 σ H1 Q (cLoop t p g s (xs.drop i) acc L)
theorem comp_read {G : Gx} {raw : Bool} {vs : List Nat} (hix : ∀ j ∈ ix, j ∈ vs) {σ : St} {H : Hp} {Q : VK} (q : tOf G (RN G) c.r0 c.H0 c.W (nComp fi t p g vs) σ H Q) :
    tLc (tOf G (RI G raw) c.r0 c.H0 c.W fi) (gOf G raw c.r0 c.H0 t ix) (tOf G RB c.r0 c.H0 (fun _ _ _ _ => False) p) (tOf G (RE G) c.r0 c.H0 (fun _ _ _ _ => False) g) vs σ H Q := by
  refine tOf.first (R := RI G raw) (R' := RN G) (k := fun s xs L1 => cLoop t p g (wipeS s vs) xs [] L1) q fun ρ L s xs L1 ρ1 H1 J r e1 q1 o => ?_
  intro D hD
  refine ⟨fun i m H' => m = xs.length - i ∧ i ≤ xs.length ∧ CI G c.W t p g (wipeS s vs) ρ1 σ H1 Q D xs i H', ⟨xs.length, by simp, Nat.zero_le _, ρ1, L1, [], [], Ext.new hD, r.st.new hD, r.st.fresh hD, upd_same, .nil, by simpa using o⟩, ?_⟩
  rintro i m Hi ⟨rfl, hi, ρ2, L2, acc, av, e2, t2, nD, aD, ra, oi⟩
  obtain ⟨y1, y2⟩ := q1 i ρ2 Hi e2.toStb
  by_cases hlt : i < xs.length
  · obtain ⟨go, yl⟩ := y1 hlt
    refine .inr ⟨go, fun H' => CI G c.W t p g (wipeS s vs) ρ1 σ H1 Q D xs (i + 1) H', fun H' h => ⟨xs.length - (i + 1), by omega, rfl, hlt, h⟩, fun x H' hy => ?_⟩
    obtain ⟨k, rx⟩ := yl x H' hy
    have R2 := (r.go e2 t2).go (Ext.same k) (t2.same k)
    have hd : xs.drop i = xs[i] :: xs.drop (i + 1) := by rw [List.drop_eq_getElem_cons hlt]
    rw [hd] at oi
    unfold cLoop at oi
    cases ht : t xs[i] (wipeS s vs) with
    | none => rw [ht] at oi; exact oi.elim
    | some s1 =>
      rw [ht] at oi
      dsimp only at oi
      have e3 : Ext ρ1 ρ2 H1 H' := e2.trans (Ext.same k)
      have aD3 : H' D = some (.lst av) := k _ _ aD
      refine ⟨ρ2, L2, wipeS s vs, xs[i], s1, R2.wipe vs, rx, ht, fun σ1 R3 hl hj => ⟨wipe_eq (by rw [hl, wipe_length]) fun j hn => hj j fun z => hn (hix j z), ρ2, L2, s1, R3, ?_⟩⟩
      cases hp : p s1 L2 with
      | none => rw [hp] at oi; exact oi.elim
      | some a =>
        cases a with
        | err _ _ => rw [hp] at oi; exact oi.elim
        | ok b L3 =>
          rw [hp] at oi
          have oi : Ou G (RN G) c.W ρ1 σ H1 Q (if b = true then bndN (g s1 L3) fun y L2 => if acc.length < sizeLine then cLoop t p g (wipeS s vs) (xs.drop (i + 1)) (acc ++ [y]) L2 else none else cLoop t p g (wipeS s vs) (xs.drop (i + 1)) acc L3) := oi
          intro ρ3 H3 b' e4 t3 hb
          obtain rfl : b = b' := hb
          have aD4 : H3 D = some (.lst av) := e4.keep _ _ nD aD3
          have nD4 : D ∉ ρ3 := e4.notin nD aD3
          have ra4 := (ra.mono (Ext.same (ρ := ρ2) k).toStb).mono e4.toStb
          cases b with
          | false =>
            rw [if_neg Bool.false_ne_true] at oi ⊢
            exact ⟨ρ3, L3, acc, av, e3.trans e4, t3, nD4, aD4, ra4, oi⟩
          | true =>
            rw [if_pos rfl] at oi ⊢
            refine ⟨ρ3, L3, s1, R3.go e4 t3, ?_⟩
            cases hg : g s1 L3 with
            | none => rw [hg] at oi; exact oi.elim
            | some a =>
              cases a with
              | err _ _ => rw [hg] at oi; exact oi.elim
              | ok y L4 =>
                rw [hg] at oi
                have oi : Ou G (RN G) c.W ρ1 σ H1 Q (if acc.length < sizeLine then cLoop t p g (wipeS s vs) (xs.drop (i + 1)) (acc ++ [y]) L4 else none) := oi
                intro ρ5 H5 yv e5 t5 ry
                by_cases hz : acc.length < sizeLine
                · rw [if_pos hz] at oi
                  have aD5 : H5 D = some (.lst av) := e5.keep _ _ nD4 aD4
                  have nD5 : D ∉ ρ5 := e5.notin nD4 aD4
                  have ra5 := ra4.mono e5.toStb
                  refine ⟨av, aD5, by rw [← ra5.length]; exact hz, ?_⟩
                  have e6 := (e3.trans e4).trans e5
                  have st : Stb ρ5 ρ5 H5 (upd H5 D (.lst (av ++ [yv]))) := Stb.mut aD5 trivial
                  exact ⟨ρ5, L4, acc ++ [y], av ++ [yv], e6.mutNew hD aD5 trivial, t5.mutOut nD5 aD5 trivial, nD5, upd_same, (ra5.append (.cons ry .nil)).mono st, oi⟩
                · rw [if_neg hz] at oi; exact oi.elim
  · have hi' : i = xs.length := by omega
    subst hi'
    refine .inl ⟨y2 (Nat.le_refl _), ?_⟩
    rw [List.drop_length] at oi
    exact oi ρ2 Hi _ e2 t2 ⟨D, rfl, nD, hD, av, aD, ra⟩
theorem nv_lc {raw : Bool} (hc : X.calm = true) (hN : X.N.Nodup) (hi : IV X c raw tg iter fi) (ok : BlkOk X.N X.env.scope scope own)
    (hg : ∀ (s : Shared) (H : Hp) (C : Addr) (cl : List (Str × Addr)) (fp : List Addr), GV (X.blk s H scope (compEnvC scope cl C X.env) fp) c raw tg t ix)
    (ht : ∀ (s : Shared) (H : Hp) (C : Addr) (cl : List (Str × Addr)) (fp : List Addr), TVs (X.blk s H scope (compEnvC scope cl C X.env) fp) c.nox ifs p)
    (he : ∀ (s : Shared) (H : Hp) (C : Addr) (cl : List (Str × Addr)) (fp : List Addr), EV (X.blk s H scope (compEnvC scope cl C X.env) fp) c.nox elt g)
    (hix : ∀ j ∈ ix, j ∈ own.map (·.2) := by decide) (hs : ∀ x, foldedSetIterable iter X.env x = pure x := by intro _; rfl) :
    NV X c (.ListComp elt [⟨tg, iter, ifs, 0⟩] scope pos) (nComp fi t p g (own.map (·.2))) :=
  pe_imp (pe_lc (g := gOf (gx X c.kt) raw c.r0 c.H0 t ix) (tt := tOf (gx X c.kt) RB c.r0 c.H0 (fun _ _ _ _ => False) p) (te := tOf (gx X c.kt) (RE (gx X c.kt)) c.r0 c.H0 (fun _ _ _ _ => False) g) hc hN hi ok hg ht he hs) fun _ _ _ q => comp_read hix q
end
end Fx

set_option Elab.async false
set_option linter.all false
set_option maxRecDepth 100000
set_option maxHeartbeats 1000000
/-! Fx part 10: statements. -/
namespace Fx
open PySem L2

/-! ### the content of a mutable object, changed -/
def URep (G : Gx) (ρ : List Addr) (H : Hp) : Cell → HO → Prop
  | .lst xs, u => ∃ vs, u = .lst vs ∧ Reps G ρ H xs vs
  | .dk kvs, u => ∃ l, u = .dK l ∧ DRep G ρ H kvs l
  | .dt kvs, u => ∃ l, u = .dT l ∧ DRep G ρ H kvs l
  | .ins C fs, u => ∃ c dx l, u = .ins c dx l ∧ G.mg C = some (.ref c) ∧ l.map (·.1) = fs.map (·.1) ∧ Reps G ρ H (fs.map (·.2)) (l.map (·.2))
theorem URep.mut {G : Gx} {ρ : List Addr} {H : Hp} : ∀ {c : Cell} {u : HO}, URep G ρ H c u → Mut (some u)
  | .lst xs, _, ⟨_, rfl, _⟩ => trivial
  | .dk xs, _, ⟨_, rfl, _⟩ => trivial
  | .dt xs, _, ⟨_, rfl, _⟩ => trivial
  | .ins _ _, _, ⟨_, _, _, rfl, _⟩ => trivial
theorem URep.mono {G : Gx} {ρ ρ' : List Addr} {H H' : Hp} (e : Stb ρ ρ' H H') : ∀ {c : Cell} {u : HO}, URep G ρ H c u → URep G ρ' H' c u
  | .lst xs, _, ⟨vs, rfl, h⟩ => ⟨vs, rfl, h.mono e⟩
  | .dk xs, _, ⟨l, rfl, h⟩ => ⟨l, rfl, h.mono e⟩
  | .dt xs, _, ⟨l, rfl, h⟩ => ⟨l, rfl, h.mono e⟩
  | .ins _ _, _, ⟨c, dx, l, rfl, h1, h2, h⟩ => ⟨c, dx, l, rfl, h1, h2, h.mono e⟩
theorem URep.crep {G : Gx} {ρ : List Addr} {H : Hp} {p : Addr} : ∀ {c : Cell} {u : HO}, URep G ρ H c u → H p = some u → CRep G ρ H p c
  | .lst xs, _, ⟨vs, rfl, h⟩, e => ⟨vs, e, h⟩
  | .dk xs, _, ⟨l, rfl, h⟩, e => ⟨l, e, h⟩
  | .dt xs, _, ⟨l, rfl, h⟩, e => ⟨l, e, h⟩
  | .ins _ _, _, ⟨c, dx, l, rfl, h1, h2, h⟩, e => ⟨c, dx, l, e, h1, h2, h⟩
theorem CRep.urep {G : Gx} {ρ : List Addr} {H : Hp} {p : Addr} : ∀ {c : Cell}, CRep G ρ H p c → ∃ u, H p = some u ∧ URep G ρ H c u
  | .lst xs, ⟨vs, e, h⟩ => ⟨_, e, vs, rfl, h⟩
  | .dk xs, ⟨l, e, h⟩ => ⟨_, e, l, rfl, h⟩
  | .dt xs, ⟨l, e, h⟩ => ⟨_, e, l, rfl, h⟩
  | .ins _ _, ⟨c, dx, l, e, h1, h2, h⟩ => ⟨_, e, c, dx, l, rfl, h1, h2, h⟩
theorem Ext.mutIn {ρ ρ' : List Addr} {H H' : Hp} {p : Addr} {u w : HO} (e : Ext ρ ρ' H H') (hp : p ∈ ρ' ∨ H p = none) (h : H' p = some w) (mu : Mut (some w)) : Ext ρ ρ' H (upd H' p u) := by
  obtain ⟨new, en, hn⟩ := e.pre
  have ne : ∀ a o, a ∉ ρ → H a = some o → a ≠ p := fun a o na ha z => by
    subst z
    rcases hp with hp | hp
    · rw [en] at hp
      rcases List.mem_append.mp hp with q | q
      · exact na q
      · rw [hn a q] at ha; cases ha
    · rw [hp] at ha; cases ha
  refine ⟨⟨e.pre, fun a o q => ?_, fun a xs q => ?_, fun a o u' hn' q => by rw [upd_ne (ne _ _ hn' q)]; exact e.frz a o u' hn' q⟩, fun a o hn' q => by rw [upd_ne (ne _ _ hn' q)]; exact e.keep a o hn' q⟩
  · by_cases z : a = p
    · exact ⟨u, by rw [z, upd_same]⟩
    · obtain ⟨o', q'⟩ := e.there a o q
      exact ⟨o', by rw [upd_ne z]; exact q'⟩
  · have h1 := e.tup a xs q
    rw [upd_ne]
    · exact h1
    · rintro rfl
      rw [h] at h1; cases h1; exact mu
/-- an own object is changed -/
theorem RR.ownSet {G : Gx} {r0 ρ : List Addr} {H0 H : Hp} {L : Store} {s : Slots} {σ : St} (r : RR G r0 H0 ρ L s σ H) {i : Nat} {c c' : Cell} (e : s[i]? = some (.own c)) {p : Addr} (hp : σ[i]? = some (some (.ref p))) {u : HO} (h : URep G ρ H c' u) :
    Stb ρ ρ H (upd H p u) ∧ RR G r0 H0 ρ L (s.set i (.own c')) σ (upd H p u) := by
  obtain ⟨β, q⟩ := r.sl
  obtain ⟨h1, h2, h3, h4⟩ := q.own i c e
  rw [hp] at h1
  have hb : p = β i := by
    injection h1 with h1; injection h1 with h1; injection h1
  subst hb
  obtain ⟨w, hw, mw⟩ := h2.there
  have st : Stb ρ ρ H (upd H (β i) u) := Stb.mut hw mw
  have hi : i < s.length := (List.getElem?_eq_some_iff.mp e).1
  refine ⟨st, r.st.mutOut h3 hw mw, ⟨β, by simpa using q.len, fun j v ej => ?_, fun j d ej => ?_, fun j k d d' ej ek eq => ?_⟩, r.ext.mutIn (.inr h4) hw mw⟩
  · by_cases hj : i = j
    · subst hj; rw [List.getElem?_set_self hi] at ej; cases ej
    · rw [List.getElem?_set_ne hj] at ej
      obtain ⟨x, k1, k2⟩ := q.val j v ej
      exact ⟨x, k1, k2.mono st⟩
  · by_cases hj : i = j
    · subst hj
      rw [List.getElem?_set_self hi] at ej
      cases ej
      exact ⟨hp, (h.mono st).crep upd_same, h3, h4⟩
    · rw [List.getElem?_set_ne hj] at ej
      obtain ⟨k1, k2, k3, k4⟩ := q.own j d ej
      exact ⟨k1, k2.mono st (upd_ne fun z => hj (q.inj i j c d e ej z.symm)), k3, k4⟩
  · have f : ∀ (j : Nat) (d : Cell), (s.set i (.own c'))[j]? = some (.own d) → ∃ d, s[j]? = some (.own d) := fun j d ej => by
      by_cases hj : i = j
      · subst hj; exact ⟨c, e⟩
      · rw [List.getElem?_set_ne hj] at ej; exact ⟨d, ej⟩
    obtain ⟨d1, e1⟩ := f j d ej
    obtain ⟨d2, e2⟩ := f k d' ek
    exact q.inj j k d1 d2 e1 e2 eq
/-- an object of the store is changed -/
theorem RR.locSet {G : Gx} {r0 ρ : List Addr} {H0 H : Hp} {L : Store} {s : Slots} {σ : St} (r : RR G r0 H0 ρ L s σ H) {n : Nat} {c c' : Cell} (e : L[n]? = some c) {p : Addr} (hp : ρ[n]? = some p) {u : HO} (h : URep G ρ H c' u) :
    Stb ρ ρ H (upd H p u) ∧ RR G r0 H0 ρ (L.set n c') s σ (upd H p u) := by
  have h2 := r.st.cell n c p e hp
  obtain ⟨w, hw, mw⟩ := h2.there
  have st : Stb ρ ρ H (upd H p u) := Stb.mut hw mw
  have hn : n < L.length := (List.getElem?_eq_some_iff.mp e).1
  have hm : p ∈ ρ := List.mem_of_getElem? hp
  refine ⟨st, ⟨by simpa using r.st.len, r.st.nd, fun m d a em ea => ?_⟩, ?_, r.ext.mutIn (.inl hm) hw mw⟩
  · by_cases hj : n = m
    · subst hj
      rw [List.getElem?_set_self hn] at em
      cases em
      rw [hp] at ea; cases ea
      exact (h.mono st).crep upd_same
    · rw [List.getElem?_set_ne hj] at em
      refine (r.st.cell m d a em ea).mono st (upd_ne fun z => hj ?_)
      subst z
      obtain ⟨l1, e1⟩ := List.getElem?_eq_some_iff.mp ea
      obtain ⟨l2, e2⟩ := List.getElem?_eq_some_iff.mp hp
      exact (List.getElem_inj r.st.nd).mp (e2.trans e1.symm)
  · obtain ⟨β, q⟩ := r.sl
    refine ⟨β, q.len, fun j v ej => ?_, fun j d ej => ?_, q.inj⟩
    · obtain ⟨x, k1, k2⟩ := q.val j v ej
      exact ⟨x, k1, k2.mono st⟩
    · obtain ⟨k1, k2, k3, k4⟩ := q.own j d ej
      exact ⟨k1, k2.mono st (upd_ne fun z => k3 (by rw [z]; exact hm)), k3, k4⟩
/-- a new object comes into a slot -/
theorem RR.ownNew {G : Gx} {r0 ρ ρ' : List Addr} {H0 H H' : Hp} {L L' : Store} {s : Slots} {σ : St} (r : RR G r0 H0 ρ L s σ H) (e : Ext ρ ρ' H H') (t : Rst G ρ' L' H') {c : Cell} {v : V} (h : RN G H ρ' H' c v) (i : Nat) : RR G r0 H0 ρ' L' (s.set i (.own c)) (σ.set i (some v)) H' := by
  obtain ⟨p, rfl, hp, hn, hc⟩ := h
  have r' := r.go e t
  refine ⟨t, ?_, r'.ext⟩
  obtain ⟨β, q⟩ := r.sl
  have q' := q.ext e
  have hl := q.len
  refine ⟨fun j => if j = i then p else β j, by simp [hl], fun j w ej => ?_, fun j d ej => ?_, fun j k d d' ej ek eq => ?_⟩
  · by_cases hj : i = j
    · subst hj
      by_cases hi : i < s.length
      · rw [List.getElem?_set_self hi] at ej; cases ej
      · rw [List.getElem?_eq_none (by simp; omega)] at ej; cases ej
    · rw [List.getElem?_set_ne hj] at ej
      rw [List.getElem?_set_ne hj]
      exact q'.val j w ej
  · by_cases hj : i = j
    · subst hj
      by_cases hi : i < s.length
      · rw [List.getElem?_set_self hi] at ej
        cases ej
        refine ⟨by rw [List.getElem?_set_self (by omega), if_pos rfl], by rw [if_pos rfl]; exact hc, by rw [if_pos rfl]; exact hp, by rw [if_pos rfl]; exact r.ext.toStb.noneOf hn⟩
      · rw [List.getElem?_eq_none (by simp; omega)] at ej; cases ej
    · rw [List.getElem?_set_ne hj] at ej
      rw [List.getElem?_set_ne hj, if_neg (Ne.symm hj)]
      exact q'.own j d ej
  · have old : ∀ (j : Nat) (d : Cell), j ≠ i → (s.set i (.own c))[j]? = some (.own d) → s[j]? = some (.own d) ∧ β j ≠ p := fun j d hj ej => by
      rw [List.getElem?_set_ne (Ne.symm hj)] at ej
      refine ⟨ej, fun z => ?_⟩
      obtain ⟨_, h2, _, _⟩ := q.own j d ej
      obtain ⟨o, ho, _⟩ := h2.there
      rw [z, hn] at ho; cases ho
    by_cases h1 : j = i
    · by_cases h2 : k = i
      · rw [h1, h2]
      · obtain ⟨_, n⟩ := old k d' h2 ek
        simp only [if_pos h1, if_neg h2] at eq
        exact absurd eq.symm n
    · by_cases h2 : k = i
      · obtain ⟨_, n⟩ := old j d h1 ej
        simp only [if_neg h1, if_pos h2] at eq
        exact absurd eq n
      · simp only [if_neg h1, if_neg h2] at eq
        exact q.inj j k d d' (old j d h1 ej).1 (old k d' h2 ek).1 eq
/-- an own object is frozen -/
theorem RR.ownFrz {G : Gx} {r0 ρ : List Addr} {H0 H : Hp} {L : Store} {s : Slots} {σ : St} (r : RR G r0 H0 ρ L s σ H) {i : Nat} {c : Cell} {x : PV} (e : s[i]? = some (.own c)) (hf : frzC c = some x) :
    ∃ p u, H p = some u ∧ Mut (some u) ∧ ∀ o, Stb ρ ρ H (upd H p (.frz o u)) ∧ RR G r0 H0 ρ L (s.set i (.val x)) σ (upd H p (.frz o u)) := by
  obtain ⟨β, q⟩ := r.sl
  obtain ⟨h1, h2, h3, h4⟩ := q.own i c e
  obtain ⟨u, hu, mu, hr⟩ := h2.frz h3 hf
  refine ⟨β i, u, hu, mu, fun od => ?_⟩
  have st : Stb ρ ρ H (upd H (β i) (.frz od u)) := Stb.mut hu mu
  have hi : i < s.length := (List.getElem?_eq_some_iff.mp e).1
  refine ⟨st, r.st.mutOut h3 hu mu, ⟨β, by simpa using q.len, fun j v ej => ?_, fun j d ej => ?_, fun j k d d' ej ek eq => ?_⟩, r.ext.mutIn (.inr h4) hu mu⟩
  · by_cases hj : i = j
    · subst hj
      rw [List.getElem?_set_self hi] at ej
      cases ej
      exact ⟨_, h1, hr od⟩
    · rw [List.getElem?_set_ne hj] at ej
      obtain ⟨w, k1, k2⟩ := q.val j v ej
      exact ⟨w, k1, k2.mono st⟩
  · by_cases hj : i = j
    · subst hj; rw [List.getElem?_set_self hi] at ej; cases ej
    · rw [List.getElem?_set_ne hj] at ej
      obtain ⟨k1, k2, k3, k4⟩ := q.own j d ej
      exact ⟨k1, k2.mono st (upd_ne fun z => hj (q.inj i j c d e ej z.symm)), k3, k4⟩
  · have f : ∀ (j : Nat) (d : Cell), (s.set i (.val x))[j]? = some (.own d) → s[j]? = some (.own d) := fun j d ej => by
      by_cases hj : i = j
      · subst hj; rw [List.getElem?_set_self hi] at ej; cases ej
      · rw [List.getElem?_set_ne hj] at ej; exact ej
    exact q.inj j k d d' (f j d ej) (f k d' ek) eq

/-! ### readings of statements -/
def OuS (G : Gx) (r0 : List Addr) (H0 : Hp) (W : WX) (ρ : List Addr) (H : Hp) (D : Ends) : Option (Res Flw) → Prop
  | some (.ok (.nx s') L') => ∀ ρ' H' σ', Stb ρ ρ' H H' → RR G r0 H0 ρ' L' s' σ' H' → D.nx σ' H'
  | some (.ok (.bk s') L') => ∀ ρ' H' σ', Stb ρ ρ' H H' → RR G r0 H0 ρ' L' s' σ' H' → D.bk σ' H'
  | some (.ok (.ct s') L') => ∀ ρ' H' σ', Stb ρ ρ' H H' → RR G r0 H0 ρ' L' s' σ' H' → D.ct σ' H'
  | some (.ok (.rt v) L') => ∀ ρ' H' u, Ext r0 ρ' H0 H' → Rst G ρ' L' H' → Rep G ρ' H' v u → D.rt u H'
  | some (.err x L') => ∀ ρ' H' σ' cls d, Ext r0 ρ' H0 H' → Rst G ρ' L' H' → XRep G ρ' H' x cls d → W cls d σ' H'
  | none => False
theorem OuS.ext {G : Gx} {r0 ρ ρ1 : List Addr} {H0 H H1 : Hp} {W : WX} {D : Ends} {r : Option (Res Flw)} (h : OuS G r0 H0 W ρ H D r) (e : Stb ρ ρ1 H H1) : OuS G r0 H0 W ρ1 H1 D r := by
  match r, h with
  | some (.ok (.nx s) L), h => exact fun ρ' H' σ' f R => h ρ' H' σ' (e.trans f) R
  | some (.ok (.bk s) L), h => exact fun ρ' H' σ' f R => h ρ' H' σ' (e.trans f) R
  | some (.ok (.ct s) L), h => exact fun ρ' H' σ' f R => h ρ' H' σ' (e.trans f) R
  | some (.ok (.rt s) L), h => exact h
  | some (.err x L), h => exact h
def tS (G : Gx) (r0 : List Addr) (H0 : Hp) (W : WX) (f : SF) : TS := fun D σ H => ∃ ρ L s, RR G r0 H0 ρ L s σ H ∧ OuS G r0 H0 W ρ H D (f s L)
theorem OuS.bind {α β : Type} {G : Gx} {R : RT α β} {r0 ρ : List Addr} {H0 H : Hp} {W : WX} {D : Ends} {σ : St} {Q : β → Hp → Prop} {r : Option (Res α)} {k : α → Store → Option (Res Flw)}
    (o : OuS G r0 H0 W ρ H D (bnd r k)) (x : Ext r0 ρ H0 H)
    (go : ∀ a L1 ρ1 H1 b, r = some (.ok a L1) → Ext ρ ρ1 H H1 → Rst G ρ1 L1 H1 → R H ρ1 H1 a b → OuS G r0 H0 W ρ1 H1 D (k a L1) → Q b H1) : Ou G R W ρ σ H Q r := by
  match r, o with
  | none, o => exact o
  | some (.err y L1), o =>
    exact fun ρ' H' cls d e t z => (show ∀ ρ' H' σ' cls d, Ext r0 ρ' H0 H' → Rst G ρ' L1 H' → XRep G ρ' H' y cls d → W cls d σ' H' from o) ρ' H' σ cls d (x.trans e) t z
  | some (.ok a L1), o =>
    exact fun ρ1 H1 b e t q => go a L1 ρ1 H1 b rfl e t q (OuS.ext (show OuS G r0 H0 W ρ H D (k a L1) from o) e.toStb)
theorem tS.first {α β : Type} {G : Gx} {R : RT α β} {r0 : List Addr} {H0 : Hp} {W : WX} {f : FF α} {k : Slots → α → Store → Option (Res Flw)} {D : Ends} {σ : St} {H : Hp} {Q : β → Hp → Prop}
    (h : tS G r0 H0 W (fun s L => bnd (f s L) (k s)) D σ H)
    (go : ∀ ρ (L : Store) s a L1 ρ1 H1 b, RR G r0 H0 ρ L s σ H → Ext ρ ρ1 H H1 → Rst G ρ1 L1 H1 → R H ρ1 H1 a b → OuS G r0 H0 W ρ1 H1 D (k s a L1) → Q b H1) : tOf G R r0 H0 W f σ H Q := by
  obtain ⟨ρ, L, s, r, o⟩ := h
  exact ⟨ρ, L, s, r, OuS.bind o r.ext fun a L1 ρ1 H1 b _ e t q o' => go ρ L s a L1 ρ1 H1 b r e t q o'⟩
def ES (X : Cx) (c : FC) (e : Stmt) (f : SF) : Prop := PS X e (tS (gx X c.kt) c.r0 c.H0 c.W f)
def ESs (X : Cx) (c : FC) (es : List Stmt) (f : SF) : Prop := PSs X es (tS (gx X c.kt) c.r0 c.H0 c.W f)

/-! ### blocks -/
def sNx : SF := fun s L => some (.ok (.nx s) L)
def sSeq (f g : SF) : SF := fun s L => match f s L with
  | some (.ok (.nx s1) L1) => g s1 L1
  | r => r
section
variable {X : Cx} {c : FC} {e v : Expr} {st : Stmt} {sts : List Stmt} {f : EF} {g h : SF} {fc : CF} {p : BF} {pos pos' : Pos}
theorem ess_nil : ESs X c [] sNx := pss_imp pss_nil fun D σ H q => by
  obtain ⟨ρ, L, s, r, o⟩ := q
  exact o ρ H σ Stb.refl r
theorem seq_read {G : Gx} {r0 : List Addr} {H0 : Hp} {W : WX} {D : Ends} {σ : St} {H : Hp} (q : tS G r0 H0 W (sSeq g h) D σ H) : tSeq (tS G r0 H0 W g) (tS G r0 H0 W h) D σ H := by
  obtain ⟨ρ, L, s, r, o⟩ := q
  refine ⟨ρ, L, s, r, ?_⟩
  unfold sSeq at o
  match hg : g s L, o with
  | some (.ok (.nx s1) L1), o => exact fun ρ' H' σ' e R => ⟨ρ', L1, s1, R, OuS.ext o e⟩
  | some (.ok (.rt v) L1), o => exact o
  | some (.ok (.bk v) L1), o => exact o
  | some (.ok (.ct v) L1), o => exact o
  | some (.err v L1), o => exact o
  | none, o => exact o.elim
theorem ess_cons (h1 : ES X c st g) (h2 : ESs X c sts h) : ESs X c (st :: sts) (sSeq g h) := pss_imp (pss_cons h1 h2) fun _ _ _ q => seq_read q
theorem ess_one (h1 : ES X c st g) : ESs X c [st] g := pss_one h1
def sPass : SF := sNx
theorem es_pass : ES X c (.Pass pos) sPass := ps_imp ps_pass fun D σ H q => by
  obtain ⟨ρ, L, s, r, o⟩ := q
  exact o ρ H σ Stb.refl r
def sCt : SF := fun s L => some (.ok (.ct s) L)
theorem es_continue : ES X c (.Continue pos) sCt := ps_imp ps_continue fun D σ H q => by
  obtain ⟨ρ, L, s, r, o⟩ := q
  exact o ρ H σ Stb.refl r
def sRet (f : EF) : SF := fun s L => bnd (f s L) fun v L1 => some (.ok (.rt v) L1)
theorem es_ret (he : EV X c e f) : ES X c (.Return (some e) pos) (sRet f) := ps_imp (ps_ret he) fun D σ H q => by
  refine tS.first (R := RE _) (k := fun s v L1 => some (.ok (.rt v) L1)) q fun ρ L s v L1 ρ1 H1 u r e1 t1 q1 o => ?_
  exact o ρ1 H1 u (r.ext.trans e1) t1 q1
def sRetN : SF := fun s L => some (.ok (.rt .non) L)
theorem es_retN : ES X c (.Return none pos) sRetN := ps_imp ps_retN fun D σ H q => by
  obtain ⟨ρ, L, s, r, o⟩ := q
  exact o ρ H _ r.ext r.st rfl
def sIf (p : BF) (g h : SF) : SF := fun s L => bnd (p s L) fun k L1 => if k = true then g s L1 else h s L1
theorem es_if {t : Expr} {a b : List Stmt} (ht : TV X c t p) (ha : ESs X c a g) (hb : ESs X c b h) : ES X c (.If t a b pos) (sIf p g h) := ps_imp (ps_if ht ha hb) fun D σ H q => by
  refine tS.first (R := RB) (k := fun s k L1 => if k = true then g s L1 else h s L1) q fun ρ L s k L1 ρ1 H1 u r e1 t1 q1 o => ?_
  obtain rfl : k = u := q1
  cases k with
  | true => rw [if_pos rfl] at o ⊢; exact ⟨ρ1, L1, s, r.go e1 t1, o⟩
  | false => rw [if_neg Bool.false_ne_true] at o ⊢; exact ⟨ρ1, L1, s, r.go e1 t1, o⟩
def sDrop (f : EF) : SF := fun s L => bnd (f s L) fun _ L1 => some (.ok (.nx s) L1)
theorem es_expr (he : EV X c e f) (hs : swapsWith e none pos.line X.env = pure false := by rfl) : ES X c (.Expr e pos) (sDrop f) := ps_imp (ps_expr he hs) fun D σ H q => by
  refine tS.first (R := RE _) (k := fun s v L1 => some (.ok (.nx s) L1)) q fun ρ L s v L1 ρ1 H1 u r e1 t1 q1 o => ?_
  exact o ρ1 H1 σ Stb.refl (r.go e1 t1)

/-! ### assignments -/
def sSet (i : Nat) (f : EF) : SF := fun s L => bnd (f s L) fun v L1 => some (.ok (.nx (s.set i (.val v))) L1)
theorem es_set {i : Nat} {x : Str} (hN : X.N.Nodup) (hi : X.N[i]? = some x) (hx : Loc X.env.scope x) (he : EV X c e f) (hs : swapsWith e (some (.Name x pos')) pos.line X.env = pure false := by rfl) (hf : X.fn x = true ∨ X.env.scope.names.lookup x = some .local := by first | exact .inl rfl | exact .inr rfl | assumption) :
    ES X c (.Assign [.Name x pos'] e pos) (sSet i f) := ps_imp (ps_set hN hi hx he hs hf) fun D σ H q => by
  refine tS.first (R := RE _) (k := fun s v L1 => some (.ok (.nx (s.set i (.val v))) L1)) q fun ρ L s v L1 ρ1 H1 u r e1 t1 q1 o => ?_
  exact o ρ1 H1 _ Stb.refl ((r.go e1 t1).set q1)
def sOwn (i : Nat) (fc : CF) : SF := fun s L => bnd (fc s L) fun w L1 => some (.ok (.nx (s.set i (.own w))) L1)
theorem es_own {i : Nat} {x : Str} (hN : X.N.Nodup) (hi : X.N[i]? = some x) (hx : Loc X.env.scope x) (he : NV X c e fc) (hs : swapsWith e (some (.Name x pos')) pos.line X.env = pure false := by rfl) (hf : X.fn x = true ∨ X.env.scope.names.lookup x = some .local := by first | exact .inl rfl | exact .inr rfl | assumption) :
    ES X c (.Assign [.Name x pos'] e pos) (sOwn i fc) := ps_imp (ps_set hN hi hx he hs hf) fun D σ H q => by
  refine tS.first (R := RN _) (k := fun s v L1 => some (.ok (.nx (s.set i (.own v))) L1)) q fun ρ L s v L1 ρ1 H1 u r e1 t1 q1 o => ?_
  exact o ρ1 H1 _ Stb.refl (r.ownNew e1 t1 q1 i)
/-- name = [..] of a line, the name a local: its own object -/
theorem es_lc {raw : Bool} {i : Nat} {y : Str} {py : Pos} {elt tg iter : Expr} {ifs : List Expr} {scope : Scope} {own : List (Str × Nat)} {spos : Pos} {fi : AF} {t : TGF} {ix : List Nat} {g : EF} (hc : X.calm = true) (hN : X.N.Nodup) (hy : X.N[i]? = some y) (hyl : X.env.scope.names.lookup y = some .local)
    (hsw : swapsWith (.ListComp elt [⟨tg, iter, ifs, 0⟩] scope pos) (some (.Name y py)) spos.line X.env = pure true) (hi : IV X c raw tg iter fi) (ok : BlkOk X.N X.env.scope scope own)
    (hg : ∀ (s : Shared) (H : Hp) (C : Addr) (cl : List (Str × Addr)) (fp : List Addr), GV (X.blk s H scope (compEnvC scope cl C X.env) fp) c raw tg t ix)
    (ht : ∀ (s : Shared) (H : Hp) (C : Addr) (cl : List (Str × Addr)) (fp : List Addr), TVs (X.blk s H scope (compEnvC scope cl C X.env) fp) c.nox ifs p)
    (he : ∀ (s : Shared) (H : Hp) (C : Addr) (cl : List (Str × Addr)) (fp : List Addr), EV (X.blk s H scope (compEnvC scope cl C X.env) fp) c.nox elt g)
    (hix : ∀ j ∈ ix, j ∈ own.map (·.2) := by decide) (hs : ∀ x, foldedSetIterable iter X.env x = pure x := by intro _; rfl) :
    ES X c (.Assign [.Name y py] (.ListComp elt [⟨tg, iter, ifs, 0⟩] scope pos) spos) (sOwn i (nComp fi t p g (own.map (·.2)))) := by
  refine ps_imp (ps_setLc (g := gOf (gx X c.kt) raw c.r0 c.H0 t ix) (tt := tOf (gx X c.kt) RB c.r0 c.H0 (fun _ _ _ _ => False) p) (te := tOf (gx X c.kt) (RE (gx X c.kt)) c.r0 c.H0 (fun _ _ _ _ => False) g) hc hN hy hyl hsw hi ok hg ht he hs) fun D σ H q => ?_
  refine comp_read (c := c) hix ?_
  refine tS.first (R := RN _) (k := fun s v L1 => some (.ok (.nx (s.set i (.own v))) L1)) q fun ρ L s v L1 ρ1 H1 u r e1 t1 q1 o => ?_
  exact o ρ1 H1 _ Stb.refl (r.ownNew e1 t1 q1 i)
def sAsg (f : EF) (t : TGF) : SF := fun s L => bnd (f s L) fun v L1 => (t v s).map fun s1 => .ok (.nx s1) L1
theorem es_asg {tg : Expr} {t : TGF} {ix : List Nat} (he : EV X c e f) (hg : GV X c false tg t ix) (hs : swapsWithSole [tg] e pos.line X.env = pure false := by rfl) (hw : swappedStores [tg] e X.env = pure none := by rfl)
    (h1 : (assignEach [tg] X.env).map (·.2) = [assign tg X.env] := by rfl) : ES X c (.Assign [tg] e pos) (sAsg f t) := ps_imp (ps_asg he hg hs hw h1) fun D σ H q => by
  refine tS.first (R := RE _) (k := fun s v L1 => (t v s).map fun s1 => Res.ok (.nx s1) L1) q fun ρ L s v L1 ρ1 H1 u r e1 t1 q1 o => ?_
  cases ht : t v s with
  | none => rw [ht] at o; exact o.elim
  | some s1 =>
    rw [ht] at o
    exact ⟨ρ1, L1, s, v, s1, r.go e1 t1, .inl q1, ht, fun σ' R' _ _ => o ρ1 H1 σ' Stb.refl R'⟩
/-- a, b = x, y: plain local names -/
def sPar (i j : Nat) (f g : EF) : SF := fun s L => bnd (f s L) fun v L1 => bnd (g s L1) fun w L2 => some (.ok (.nx ((s.set i (.val v)).set j (.val w))) L2)
theorem es_par {i j : Nat} {x y : Str} {a b : Expr} {f g : EF} {px py pt : Pos} {kt k2 pt2} (hc : X.calm = true) (hN : X.N.Nodup) (hi : X.N[i]? = some x) (hj : X.N[j]? = some y) (hij : i ≠ j)
    (hx : X.env.scope.names.lookup x = some .local) (hy : X.env.scope.names.lookup y = some .local) (ha : EV X c a f) (hb : EV X c b g)
    (hw : swappedStores [.Tuple [.Name x px, .Name y py] kt pt] (.Tuple [a, b] k2 pt2) X.env = pure (some [x, y]))
    (hs : swapsWithSole [.Tuple [.Name x px, .Name y py] kt pt] (.Tuple [a, b] k2 pt2) pos.line X.env = pure false := by rfl) (he : starEach (a :: [b]) X.env = (false, eval a X.env) :: starEach [b] X.env := by rfl) (he' : starEach [b] X.env = (false, eval b X.env) :: starEach [] X.env := by rfl) :
    ES X c (.Assign [.Tuple [.Name x px, .Name y py] kt pt] (.Tuple [a, b] k2 pt2) pos) (sPar i j f g) := ps_imp (ps_par hc hN hi hj hij hx hy (pa_cons ha (pa_cons hb pa_nil he') he) hw hs) fun D σ H q => by
  refine tS.first (R := RE _) (k := fun s v L1 => bnd (g s L1) fun w L2 => some (.ok (.nx ((s.set i (.val v)).set j (.val w))) L2)) q fun ρ L s v L1 ρ1 H1 u r e1 t1 q1 o => ?_
  refine ⟨ρ1, L1, s, r.go e1 t1, OuS.bind (R := RE _) o (r.ext.trans e1) fun w L2 ρ2 H2 u2 _ e2 t2 q2 o2 => ⟨u, u2, rfl, ?_⟩⟩
  exact o2 ρ2 H2 _ Stb.refl ((((r.go e1 t1).go e2 t2).set (Rep.mono e2.toStb q1)).set q2)
end
end Fx

set_option Elab.async false
set_option linter.all false
set_option maxRecDepth 100000
set_option maxHeartbeats 1000000
/-! Fx part 11: objects changed; loops. -/
namespace Fx
open PySem L2

/-! ### a method that changes its object -/
def MutOk (G : Gx) (m : Cell → List PV → Option Cell) (r : V → List V → Hp → VK → Prop) : Prop := ∀ ρ H p c c' xs vs Q, CRep G ρ H p c → Reps G ρ H xs vs → m c xs = some c' →
  (∀ v u, URep G ρ H c' u → Q v (upd H p u)) → r (.ref p) vs H Q
def mAppend : Cell → List PV → Option Cell
  | .lst xs, [x] => if xs.length < sizeLine then some (.lst (xs ++ [x])) else none
  | _, _ => none
def mPop : Cell → List PV → Option Cell
  | .lst xs, [.int i] => if -(2 ^ 63) ≤ i ∧ i < 2 ^ 63 then match ixN xs.length i with
    | some j => some (.lst (xs.eraseIdx j))
    | none => none else none
  | _, _ => none
def mInsert : Cell → List PV → Option Cell
  | .lst xs, [.int i, x] => if 0 ≤ i ∧ i < 2 ^ 63 ∧ xs.length < sizeLine then some (.lst (xs.take i.toNat ++ [x] ++ xs.drop i.toNat)) else none
  | _, _ => none
section
variable {G : Gx}
theorem mo_append : MutOk G mAppend rAppend := by
  intro ρ H p c c' xs vs Q hc hr hm k
  unfold mAppend at hm
  split at hm
  · rename_i ys x
    split at hm
    · rename_i hz
      cases hm
      obtain ⟨ws, h1, h2⟩ := hc
      obtain ⟨v, r, rfl, h3, h4⟩ := hr
      obtain rfl : r = [] := h4
      exact ⟨p, ws, v, rfl, rfl, h1, by rw [← h2.length]; exact hz, k _ _ ⟨_, rfl, h2.append (.cons h3 .nil)⟩⟩
    · cases hm
  · cases hm
theorem Reps.eraseIdx {ρ : List Addr} {H : Hp} : ∀ {xs : List PV} {vs : List V} (i : Nat), Reps G ρ H xs vs → Reps G ρ H (xs.eraseIdx i) (vs.eraseIdx i)
  | [], vs, i, h => by rw [show vs = [] from h]; simpa using Reps.nil
  | x :: xs, vs, 0, h => by
    obtain ⟨v, r, rfl, h1, h2⟩ := h
    simpa using h2
  | x :: xs, vs, i + 1, h => by
    obtain ⟨v, r, rfl, h1, h2⟩ := h
    simpa using Reps.cons h1 (Reps.eraseIdx i h2)
theorem mo_pop : MutOk G mPop rPopAt := by
  intro ρ H p c c' xs vs Q hc hr hm k
  unfold mPop at hm
  split at hm
  · rename_i ys i
    split at hm
    · rename_i hb
      cases hi : ixN ys.length i with
      | none => rw [hi] at hm; cases hm
      | some j =>
        rw [hi] at hm
        cases hm
        obtain ⟨ws, h1, h2⟩ := hc
        obtain ⟨v, r, rfl, h3, h4⟩ := hr
        obtain rfl : r = [] := h4
        obtain rfl : v = .int i := h3
        rw [h2.length] at hi
        obtain ⟨k1, k2, k3, k4⟩ := ixN_seq hi
        exact ⟨p, ws, i, j, ws[j], rfl, rfl, h1, hb.1, hb.2, k1, by simp [k2], k _ _ ⟨_, rfl, h2.eraseIdx j⟩⟩
    · cases hm
  · cases hm
theorem mo_insert : MutOk G mInsert (fun x vs H Q => ∃ (l : Addr) (xs : List V) (i : Int) (y : V), x = .ref l ∧ vs = [.int i, y] ∧ H l = some (.lst xs) ∧ xs.length < sizeLine ∧ 0 ≤ i ∧ i < 2 ^ 63 ∧
    Q .non (upd H l (.lst (xs.take i.toNat ++ [y] ++ xs.drop i.toNat)))) := by
  intro ρ H p c c' xs vs Q hc hr hm k
  unfold mInsert at hm
  split at hm
  · rename_i ys i x
    split at hm
    · rename_i hz
      cases hm
      obtain ⟨ws, h1, h2⟩ := hc
      obtain ⟨v, r, rfl, h3, v2, r2, rfl, h4, h5⟩ := hr
      obtain rfl : r2 = [] := h5
      obtain rfl : v = .int i := h3
      exact ⟨p, ws, i, v2, rfl, rfl, h1, by rw [← h2.length]; exact hz.2.2, hz.1, hz.2.1, k _ _ ⟨_, rfl, ((h2.take _).append (.cons h4 .nil)).append (h2.drop _)⟩⟩
    · cases hm
  · cases hm
end
/-- found.m(..), found of one's own -/
def isLst : Cell → Bool
  | .lst _ => true
  | _ => false
def sOwnM (m : Cell → List PV → Option Cell) (i : Nat) (fa : AF) : SF := fun s L => match s[i]? with
  | some (.own c) => if isLst c = true then bnd (fa s L) fun xs L1 => (m c xs).map fun c' => .ok (.nx (s.set i (.own c'))) L1 else none
  | _ => none
theorem OuS.own {G : Gx} {r0 ρ : List Addr} {H0 H : Hp} {W : WX} {D : Ends} {s : Slots} {σ : St} {L : Store} {i : Nat} {c : Cell} {x : Option Cell} (r : RR G r0 H0 ρ L s σ H) (e : s[i]? = some (.own c)) {p : Addr} (hp : σ[i]? = some (some (.ref p)))
    (o : OuS G r0 H0 W ρ H D (x.map fun c' => .ok (.nx (s.set i (.own c'))) L)) : ∃ c', x = some c' ∧ ∀ u, URep G ρ H c' u → D.nx σ (upd H p u) := by
  cases x with
  | none => exact o.elim
  | some c' =>
    refine ⟨c', rfl, fun u hu => ?_⟩
    obtain ⟨st, R⟩ := r.ownSet e hp hu
    exact o ρ _ σ st R
theorem own_slot {G : Gx} {r0 ρ : List Addr} {H0 H : Hp} {L : Store} {s : Slots} {σ : St} (q : RR G r0 H0 ρ L s σ H) {i : Nat} {c : Cell} (e : s[i]? = some (.own c)) : ∃ p, σ[i]? = some (some (.ref p)) ∧ CRep G ρ H p c ∧ p ∉ ρ := by
  obtain ⟨β, z⟩ := q.sl
  obtain ⟨h1, h2, h3, _⟩ := z.own i c e
  exact ⟨_, h1, h2, h3⟩
section
variable {X : Cx} {c : FC} {e e1 e2 v : Expr} {es : List Expr} {fa : AF} {f g : EF} {pos pos' p apos cpos : Pos} {id : String} {name x : Str} {r : V → List V → Hp → VK → Prop} {m : Cell → List PV → Option Cell} {i : Nat}
theorem es_ownM (mo : MutOk (gx X c.kt) m r) (slot : Slot "list" name id) (hty : typeOf (.builtin id) = pure (.type "method_descriptor")) (hm : MtR X id r)
    (hN : X.N[i]? = some x) (hv : Vis X.env.scope x) (ha : AV X c (e1 :: es) fa)
    (hbase : attributeBase (.Name x p) name X.env (eval (.Name x p) X.env) = eval (.Name x p) X.env := by rfl)
    (hfew : ((backTo cpos (starEach (e1 :: es) X.env)).all (fun x => !x.1) && (backToKw cpos (keywordEach [] X.env)).all (fun x => x.1.isSome)
      && decide ((e1 :: es).length + ([] : List Keyword).length + (if ([] : List Keyword).isEmpty then 0 else 1) < 30)) = true := by rfl)
    (hline : (apos.endLine == cpos.line) = true := by rfl) (hs : starEach (e1 :: es) X.env = (false, eval e1 X.env) :: starEach es X.env := by rfl) (hplain : (backTo cpos (starEach es X.env)).any (·.1) = false := by rfl)
    (hsw : swapsWith (.Call (.Attribute (.Name x p) name apos) (e1 :: es) [] cpos) none pos.line X.env = pure false := by rfl) (hd : (x == ("__debug__" : Str)) = false := by decide) (hcd : (x == ("__classdict__" : Str)) = false := by decide) :
    ES X c (.Expr (.Call (.Attribute (.Name x p) name apos) (e1 :: es) [] cpos) pos) (sOwnM m i fa) := by
  refine ps_imp (ps_expr (pe_bm PySem.F.plainAttrs_list slot hty hm (pe_var hN hv hd hcd) ha hbase hfew hline hs hplain) hsw) fun D σ H q => ?_
  obtain ⟨ρ, L, s, R, o⟩ := q
  unfold sOwnM at o
  split at o
  · rename_i cc hc
    split at o
    · rename_i hl
      obtain ⟨p, hp, cr, np⟩ := own_slot R hc
      have hty : tyV X.K "list" (.ref p) H := by
        cases cc with
        | lst xs => obtain ⟨vs, h1, _⟩ := cr; exact .inl ⟨rfl, vs, SqL.of h1⟩
        | _ => cases hl
      refine ⟨.ref p, hp, hty, ρ, L, s, R, OuS.bind (R := RA _) o R.ext fun xs L1 ρ1 H1 vs _ e1 t1 q1 o1 => ?_⟩
      have R1 := R.go e1 t1
      obtain ⟨c', hm', k⟩ := OuS.own R1 hc hp o1
      obtain ⟨p', hp', cr1, _⟩ := own_slot R1 hc
      rw [hp] at hp'; cases hp'
      exact mo ρ1 H1 p cc c' xs vs _ cr1 q1 hm' fun _ u hu => k u hu
    · exact o.elim
  · exact o.elim
theorem es_append (hN : X.N[i]? = some x) (hv : Vis X.env.scope x) (ha : EV X c e1 f)
    (hbase : attributeBase (.Name x p) "append" X.env (eval (.Name x p) X.env) = eval (.Name x p) X.env := by rfl)
    (hfew : ((backTo cpos (starEach (e1 :: []) X.env)).all (fun x => !x.1) && (backToKw cpos (keywordEach [] X.env)).all (fun x => x.1.isSome)
      && decide ((e1 :: []).length + ([] : List Keyword).length + (if ([] : List Keyword).isEmpty then 0 else 1) < 30)) = true := by rfl)
    (hline : (apos.endLine == cpos.line) = true := by rfl) (hs : starEach (e1 :: []) X.env = (false, eval e1 X.env) :: starEach [] X.env := by rfl)
    (hsw : swapsWith (.Call (.Attribute (.Name x p) "append" apos) (e1 :: []) [] cpos) none pos.line X.env = pure false := by rfl) (hd : (x == ("__debug__" : Str)) = false := by decide) (hcd : (x == ("__classdict__" : Str)) = false := by decide) :
    ES X c (.Expr (.Call (.Attribute (.Name x p) "append" apos) [e1] [] cpos) pos) (sOwnM mAppend i (aCons f aNil)) :=
  es_ownM mo_append PySem.F.slot_list_append PySem.F.type_list_append mt_append hN hv (av_cons ha av_nil hs) hbase hfew hline hs rfl hsw hd hcd
theorem es_pop (hN : X.N[i]? = some x) (hv : Vis X.env.scope x) (ha : EV X c e1 f)
    (hbase : attributeBase (.Name x p) "pop" X.env (eval (.Name x p) X.env) = eval (.Name x p) X.env := by rfl)
    (hfew : ((backTo cpos (starEach (e1 :: []) X.env)).all (fun x => !x.1) && (backToKw cpos (keywordEach [] X.env)).all (fun x => x.1.isSome)
      && decide ((e1 :: []).length + ([] : List Keyword).length + (if ([] : List Keyword).isEmpty then 0 else 1) < 30)) = true := by rfl)
    (hline : (apos.endLine == cpos.line) = true := by rfl) (hs : starEach (e1 :: []) X.env = (false, eval e1 X.env) :: starEach [] X.env := by rfl)
    (hsw : swapsWith (.Call (.Attribute (.Name x p) "pop" apos) (e1 :: []) [] cpos) none pos.line X.env = pure false := by rfl) (hd : (x == ("__debug__" : Str)) = false := by decide) (hcd : (x == ("__classdict__" : Str)) = false := by decide) :
    ES X c (.Expr (.Call (.Attribute (.Name x p) "pop" apos) [e1] [] cpos) pos) (sOwnM mPop i (aCons f aNil)) :=
  es_ownM mo_pop PySem.F.slot_list_pop PySem.F.type_list_pop mt_popAt hN hv (av_cons ha av_nil hs) hbase hfew hline hs rfl hsw hd hcd
theorem es_insert (hN : X.N[i]? = some x) (hv : Vis X.env.scope x) (ha : EV X c e1 f) (hb : EV X c e2 g)
    (hbase : attributeBase (.Name x p) "insert" X.env (eval (.Name x p) X.env) = eval (.Name x p) X.env := by rfl)
    (hfew : ((backTo cpos (starEach (e1 :: [e2]) X.env)).all (fun x => !x.1) && (backToKw cpos (keywordEach [] X.env)).all (fun x => x.1.isSome)
      && decide ((e1 :: [e2]).length + ([] : List Keyword).length + (if ([] : List Keyword).isEmpty then 0 else 1) < 30)) = true := by rfl)
    (hline : (apos.endLine == cpos.line) = true := by rfl) (hs : starEach (e1 :: [e2]) X.env = (false, eval e1 X.env) :: starEach [e2] X.env := by rfl) (hs2 : starEach (e2 :: []) X.env = (false, eval e2 X.env) :: starEach [] X.env := by rfl)
    (hsw : swapsWith (.Call (.Attribute (.Name x p) "insert" apos) (e1 :: [e2]) [] cpos) none pos.line X.env = pure false := by rfl) (hd : (x == ("__debug__" : Str)) = false := by decide) (hcd : (x == ("__classdict__" : Str)) = false := by decide) :
    ES X c (.Expr (.Call (.Attribute (.Name x p) "insert" apos) [e1, e2] [] cpos) pos) (sOwnM mInsert i (aCons f (aCons g aNil))) :=
  es_ownM mo_insert PySem.F.slot_list_insert PySem.F.type_list_insert mt_insert hN hv (av_cons ha (av_cons hb av_nil hs2) hs) hbase hfew hline hs (by rw [hs2]; rfl) hsw hd hcd

/-! ### o[k] = v -/
def setC (kt : Bool) : Cell → PV → PV → Option Cell
  | .lst xs, .int k, x => (ixN xs.length k).map fun j => .lst (xs.set j x)
  | .dk kvs, k, x => if kvs.length < sizeLine then (keyOf k).map fun k => .dk (put kvs k x) else none
  | .dt kvs, .tup ks, x => if (kt = false ∧ ks.isEmpty = false) ∧ kvs.length < sizeLine then (keysOf ks).map fun k => .dt (put kvs k x) else none
  | _, _, _ => none
def rSetD : V → V → V → Hp → (Hp → Prop) → Prop := fun o i v H Q => ∃ a H', o = .ref a ∧ DPut H a i v H' ∧ Q H'
theorem set_dict (hu : X.A.units + 1 < cLine) : PSet X rSetD := by
  intro pins s σ H o i v ov iv u Q I ro ri rv h
  obtain ⟨a, H', rfl, g, q⟩ := h
  obtain rfl : ov = .ref a := ro
  exact d_setItem hu I g ri rv fun s' I' => ⟨H', I', q⟩
theorem PSet.or {t t' : TSet} (h : PSet X t) (h' : PSet X t') : PSet X (fun o i v H Q => t o i v H Q ∨ t' o i v H Q) := by
  intro pins s σ H o i v ov iv u Q I ro ri rv q
  rcases q with q | q
  · exact h pins s σ H o i v ov iv u Q I ro ri rv q
  · exact h' pins s σ H o i v ov iv u Q I ro ri rv q
abbrev rSetA : TSet := fun o i v H Q => rSetL o i v H Q ∨ rSetD o i v H Q
theorem set_of {G : Gx} {ρ : List Addr} {H : Hp} {p : Addr} {cc c' : Cell} {k x : PV} {kv xv : V} {Q : Hp → Prop} (cr : CRep G ρ H p cc) (hk : Rep G ρ H k kv) (hx : Rep G ρ H x xv) (e : setC G.kt cc k x = some c') (q : ∀ u, URep G ρ H c' u → Q (upd H p u)) : rSetA (.ref p) kv xv H Q := by
  cases cc with
  | lst xs =>
    cases k with
    | int j =>
      obtain ⟨vs, h1, h2⟩ := cr
      have e : (ixN xs.length j).map (fun j => Cell.lst (xs.set j x)) = some c' := e
      cases hi : ixN xs.length j with
      | none => rw [hi] at e; cases e
      | some n =>
        rw [hi] at e
        cases e
        obtain rfl : kv = .int j := hk
        exact .inl ⟨p, vs, j, n, rfl, rfl, h1, by rw [← h2.length]; exact hi, q _ ⟨_, rfl, h2.set n hx⟩⟩
    | _ => cases e
  | dk kvs =>
    obtain ⟨l, h1, h2⟩ := cr
    have hd : DRep G ρ H kvs l := h2
    have e : (if kvs.length < sizeLine then (keyOf k).map fun k => Cell.dk (put kvs k x) else none) = some c' := e
    split at e
    · rename_i hz
      cases hk' : keyOf k with
      | none => rw [hk'] at e; cases e
      | some kk =>
        rw [hk'] at e
        cases e
        exact .inr ⟨p, _, rfl, .inl ⟨l, kk, h1, keyOf_rep hk hk', by rw [← hd.length]; exact hz, rfl⟩, q _ ⟨_, rfl, hd.put hx⟩⟩
    · cases e
  | dt kvs =>
    cases k with
    | tup ks =>
      obtain ⟨l, h1, h2⟩ := cr
      have hd : DRep G ρ H kvs l := h2
      have e : (if (G.kt = false ∧ ks.isEmpty = false) ∧ kvs.length < sizeLine then (keysOf ks).map fun k => Cell.dt (put kvs k x) else none) = some c' := e
      split at e
      · rename_i hz
        cases hk' : keysOf ks with
        | none => rw [hk'] at e; cases e
        | some kk =>
          rw [hk'] at e
          cases e
          obtain ⟨b, ws, rfl, hb, hs⟩ := hk
          have hb := keys_plain hz.1.1 hz.1.2 hk' hs hb
          have := keysOf_rep hs hk'
          subst this
          exact .inr ⟨p, _, rfl, .inr ⟨l, kk, b, h1, rfl, hb, by rw [← hd.length]; exact hz.2, rfl⟩, q _ ⟨_, rfl, hd.put hx⟩⟩
      · cases e
    | _ => cases e
  | ins C fs => cases e
/-- found[k] = v, found of one's own -/
def sPutO (kt : Bool) (i : Nat) (fk fv : EF) : SF := fun s L => bnd (fv s L) fun v L1 => match s[i]? with
  | some (.own c) => bnd (fk s L1) fun k L2 => (setC kt c k v).map fun c' => .ok (.nx (s.set i (.own c'))) L2
  | _ => none
theorem es_putO {kt : Bool} {k : Expr} {fk fv : EF} {np : Pos} (hu : X.A.units + 1 < cLine) (hkt : c.kt = kt) (hN : X.N[i]? = some x) (hv : Vis X.env.scope x) (hk : EV X c k fk) (hx : EV X c v fv)
    (ha : ∀ v, assign (.Subscript (.Name x np) k pos') X.env v = (do
      let ov ← holding [v] (eval (.Name x np) X.env)
      let iv ← holding [v, ov] (eval k X.env)
      standAt pos'
      holding [v, ov, iv] (setItem ov iv v)
      release [v, ov, iv] []) := by intro _; rfl)
    (hs : swapsWithSole [.Subscript (.Name x np) k pos'] v pos.line X.env = pure false := by rfl) (hw : swappedStores [.Subscript (.Name x np) k pos'] v X.env = pure none := by rfl)
    (h1 : (assignEach [.Subscript (.Name x np) k pos'] X.env).map (·.2) = [assign (.Subscript (.Name x np) k pos') X.env] := by rfl) (hd : (x == ("__debug__" : Str)) = false := by decide) (hcd : (x == ("__classdict__" : Str)) = false := by decide) :
    ES X c (.Assign [.Subscript (.Name x np) k pos'] v pos) (sPutO kt i fk fv) := by
  subst hkt
  refine ps_imp (ps_asg hx (pg_sub (pe_var hN hv hd hcd) hk (Fx.PSet.or set_list (set_dict hu)) ha) hs hw h1) fun D σ H q => ?_
  refine tS.first (R := RE _) (k := fun s v L1 => match s[i]? with
    | some (.own cc) => bnd (fk s L1) fun k L2 => (setC c.kt cc k v).map fun c' => .ok (.nx (s.set i (.own c'))) L2
    | _ => none) q fun ρ L s w L1 ρ1 H1 u R e1 t1 q1 o => ?_
  split at o
  · rename_i cc hc
    have R1 := R.go e1 t1
    obtain ⟨p, hp, cr, np⟩ := own_slot R1 hc
    refine ⟨.ref p, hp, ρ1, L1, s, R1, OuS.bind (R := RE _) o R1.ext fun kk L2 ρ2 H2 kv _ e2 t2 q2 o2 => ?_⟩
    have R2 := R1.go e2 t2
    obtain ⟨c', hm', kk'⟩ := OuS.own R2 hc hp o2
    obtain ⟨p', hp', cr2, _⟩ := own_slot R2 hc
    rw [hp] at hp'; cases hp'
    exact set_of cr2 q2 (Rep.mono e2.toStb q1) hm' fun u hu => kk' u hu
  · exact o.elim
/-- o[k] = v, o an object of the store -/
def sPutL (kt : Bool) (fo fk fv : EF) : SF := fun s L => bnd (fv s L) fun v L1 => bnd (fo s L1) fun o L2 => bnd (fk s L2) fun k L3 => match o with
  | .loc n => match L3[n]? with
    | some c => (setC kt c k v).map fun c' => .ok (.nx s) (L3.set n c')
    | none => none
  | _ => none
theorem es_putL {kt : Bool} {o k : Expr} {fo fk fv : EF} (hu : X.A.units + 1 < cLine) (hkt : c.kt = kt) (ho : EV X c o fo) (hk : EV X c k fk) (hx : EV X c v fv)
    (ha : ∀ v, assign (.Subscript o k pos') X.env v = (do
      let ov ← holding [v] (eval o X.env)
      let iv ← holding [v, ov] (eval k X.env)
      standAt pos'
      holding [v, ov, iv] (setItem ov iv v)
      release [v, ov, iv] []) := by intro _; rfl)
    (hs : swapsWithSole [.Subscript o k pos'] v pos.line X.env = pure false := by rfl) (hw : swappedStores [.Subscript o k pos'] v X.env = pure none := by rfl)
    (h1 : (assignEach [.Subscript o k pos'] X.env).map (·.2) = [assign (.Subscript o k pos') X.env] := by rfl) :
    ES X c (.Assign [.Subscript o k pos'] v pos) (sPutL kt fo fk fv) := by
  subst hkt
  refine ps_imp (ps_asg hx (pg_sub ho hk (Fx.PSet.or set_list (set_dict hu)) ha) hs hw h1) fun D σ H q => ?_
  refine tS.first (R := RE _) (k := fun s v L1 => bnd (fo s L1) fun o L2 => bnd (fk s L2) fun k L3 => match o with
    | .loc n => match L3[n]? with
      | some cc => (setC c.kt cc k v).map fun c' => .ok (.nx s) (L3.set n c')
      | none => none
    | _ => none) q fun ρ L s w L1 ρ1 H1 u R e1 t1 q1 o1 => ?_
  have R1 := R.go e1 t1
  refine ⟨ρ1, L1, s, R1, OuS.bind (R := RE _) o1 R1.ext fun ov L2 ρ2 H2 oo _ e2 t2 q2 o2 => ?_⟩
  have R2 := R1.go e2 t2
  refine ⟨ρ2, L2, s, R2, OuS.bind (R := RE _) o2 R2.ext fun kk L3 ρ3 H3 kv _ e3 t3 q3 o3 => ?_⟩
  have R3 := R2.go e3 t3
  have q2' := Rep.mono e3.toStb q2
  cases ov with
  | loc n =>
    obtain ⟨p, rfl, hp⟩ := q2'
    dsimp only at o3
    split at o3
    · rename_i cc hc
      cases hs : setC c.kt cc kk w with
      | none => rw [hs] at o3; exact o3.elim
      | some c' =>
        rw [hs] at o3
        refine set_of (R3.st.cell n cc p hc hp) q3 (Rep.mono (e2.trans e3).toStb q1) hs fun u hu => ?_
        obtain ⟨st, R4⟩ := R3.locSet hc hp hu
        exact o3 ρ3 _ σ st R4
    · exact o3.elim
  | _ => exact o3.elim

/-! ### an own object becomes a value (where the slot holds one) -/
def sFrz (i : Nat) (h : SF) : SF := fun s L => match s[i]? with
  | some (.own c) => match frzC c with
    | some x => h (s.set i (.val x)) L
    | none => none
  | _ => h s L
theorem ess_frz {sts : List Stmt} {h : SF} (i : Nat) (hs : ESs X c sts h) : ESs X c sts (sFrz i h) := by
  refine ⟨fun pins s σ H D I q => ?_⟩
  obtain ⟨ρ, L, s1, R, o⟩ := q
  unfold sFrz at o
  split at o
  · rename_i cc hc
    split at o
    · rename_i x hx
      obtain ⟨p, u, hp, mu, k⟩ := R.ownFrz hc hx
      obtain ⟨od, I2⟩ := I.lock hp mu
      obtain ⟨st, R2⟩ := k od
      exact hs.run pins s σ _ D I2 ⟨ρ, L, _, R2, OuS.ext o st⟩
    · exact o.elim
  · exact hs.run pins s σ H D I ⟨ρ, L, s1, R, o⟩

/-! ### loops -/
def fLoop (t : TGF) (b : SF) : List PV → SF
  | [], s, L => some (.ok (.nx s) L)
  | x :: r, s, L => match t x s with
    | none => none
    | some s1 => match b s1 L with
      | some (.ok (.nx s2) L2) => fLoop t b r s2 L2
      | some (.ok (.ct s2) L2) => fLoop t b r s2 L2
      | some (.ok (.bk s2) L2) => some (.ok (.nx s2) L2)
      | z => z
def sFor (fi : AF) (t : TGF) (b : SF) : SF := fun s L => bnd (fi s L) fun xs L1 => fLoop t b xs s L1
theorem es_for {raw : Bool} {tg iter : Expr} {body : List Stmt} {fi : AF} {t : TGF} {ix : List Nat} {b : SF} (hp : PassesOwn (model X.prog X.w) X.A X.env X.xe) (hc : X.calm = true) (hi : IV X c raw tg iter fi) (hg : GV X c raw tg t ix) (hb : ESs X c body b)
    (hs : ∀ x, foldedSetIterable iter X.env x = pure x := by intro _; rfl) : ES X c (.For tg iter body [] pos) (sFor fi t b) := by
  refine ps_imp (ps_for hp hc hi hg hb hs) fun D σ H q => ?_
  refine tS.first (R := RI _ _) (k := fun s xs L1 => fLoop t b xs s L1) q fun ρ L s xs L1 ρ1 H1 J R e1 t1 q1 o => ?_
  refine ⟨fun i m σ' H' => m = xs.length - i ∧ i ≤ xs.length ∧ ∃ ρ' L' s', Stb ρ1 ρ' H1 H' ∧ RR (gx X c.kt) c.r0 c.H0 ρ' L' s' σ' H' ∧ OuS (gx X c.kt) c.r0 c.H0 c.W ρ' H' D (fLoop t b (xs.drop i) s' L'), ⟨xs.length, by simp, Nat.zero_le _, ρ1, L1, s, Stb.refl, R.go e1 t1, o⟩, ?_⟩
  rintro i m σ' Hi ⟨rfl, hi, ρ2, L2, s2, st2, R2, o2⟩
  obtain ⟨y1, y2⟩ := q1 i ρ2 Hi st2
  by_cases hlt : i < xs.length
  · obtain ⟨go, yl⟩ := y1 hlt
    refine .inr ⟨go, fun σ' H' => ∃ ρ' L' s', Stb ρ1 ρ' H1 H' ∧ RR (gx X c.kt) c.r0 c.H0 ρ' L' s' σ' H' ∧ OuS (gx X c.kt) c.r0 c.H0 c.W ρ' H' D (fLoop t b (xs.drop (i + 1)) s' L'), fun σ' H' h => ⟨xs.length - (i + 1), by omega, rfl, hlt, h⟩, fun x H' hy => ?_⟩
    obtain ⟨k, rx⟩ := yl x H' hy
    have e3 : Ext ρ2 ρ2 Hi H' := Ext.same k
    have R3 := R2.go e3 (R2.st.same k)
    have hd : xs.drop i = xs[i] :: xs.drop (i + 1) := by rw [List.drop_eq_getElem_cons hlt]
    rw [hd] at o2
    have o3 := OuS.ext o2 e3.toStb
    unfold fLoop at o3
    cases ht : t xs[i] s2 with
    | none => rw [ht] at o3; exact o3.elim
    | some s3 =>
      rw [ht] at o3
      dsimp only at o3
      refine ⟨ρ2, L2, s2, xs[i], s3, R3, rx, ht, fun σ3 R4 _ _ => ⟨ρ2, L2, s3, R4, ?_⟩⟩
      match hbb : b s3 L2, o3 with
      | some (.ok (.nx s4) L4), o3 => exact fun ρ' H'' σ'' st R' => ⟨ρ', L4, s4, (st2.trans e3.toStb).trans st, R', OuS.ext o3 st⟩
      | some (.ok (.ct s4) L4), o3 => exact fun ρ' H'' σ'' st R' => ⟨ρ', L4, s4, (st2.trans e3.toStb).trans st, R', OuS.ext o3 st⟩
      | some (.ok (.bk s4) L4), o3 => exact o3
      | some (.ok (.rt v) L4), o3 => exact o3
      | some (.err x L4), o3 => exact o3
      | none, o3 => exact o3.elim
  · have hi' : i = xs.length := by omega
    subst hi'
    refine .inl ⟨y2 (Nat.le_refl _), ?_⟩
    rw [List.drop_length] at o2
    exact o2 ρ2 Hi σ' Stb.refl R2

def wLoop (p : BF) (b : SF) : Nat → SF
  | 0, _, _ => none
  | n + 1, s, L => match p s L with
    | some (.ok true L1) => match b s L1 with
      | some (.ok (.nx s2) L2) => wLoop p b n s2 L2
      | some (.ok (.ct s2) L2) => wLoop p b n s2 L2
      | some (.ok (.bk s2) L2) => some (.ok (.nx s2) L2)
      | z => z
    | some (.ok false L1) => some (.ok (.nx s) L1)
    | some (.err x L1) => some (.err x L1)
    | none => none
theorem es_while {t : Expr} {body : List Stmt} {p : BF} {b : SF} (n : Nat) (hp : PassesOwn (model X.prog X.w) X.A X.env X.xe) (ht : TV X c t p) (hb : ESs X c body b) : ES X c (.While t body [] pos) (wLoop p b n) := by
  refine ps_imp (ps_while hp ht hb) fun D σ H q => ?_
  obtain ⟨ρ, L, s, R, o⟩ := q
  refine ⟨fun m σ' H' => ∃ ρ' L' s', RR (gx X c.kt) c.r0 c.H0 ρ' L' s' σ' H' ∧ OuS (gx X c.kt) c.r0 c.H0 c.W ρ' H' D (wLoop p b m s' L'), ⟨n, ρ, L, s, R, o⟩, ?_⟩
  rintro m σ' Hi ⟨ρ2, L2, s2, R2, o2⟩
  refine ⟨ρ2, L2, s2, R2, ?_⟩
  cases m with
  | zero => exact o2.elim
  | succ m =>
    unfold wLoop at o2
    match hpp : p s2 L2, o2 with
    | none, o2 => exact o2.elim
    | some (.err x L3), o2 =>
      exact fun ρ' H' cls d e t z => (show ∀ ρ' H' σ' cls d, Ext c.r0 ρ' c.H0 H' → Rst (gx X c.kt) ρ' L3 H' → XRep (gx X c.kt) ρ' H' x cls d → c.W cls d σ' H' from o2) ρ' H' σ' cls d (R2.ext.trans e) t z
    | some (.ok false L3), o2 =>
      intro ρ3 H3 k e3 t3 hk
      obtain rfl : false = k := hk
      rw [if_neg Bool.false_ne_true]
      exact o2 ρ3 H3 σ' e3.toStb (R2.go e3 t3)
    | some (.ok true L3), o2 =>
      intro ρ3 H3 k e3 t3 hk
      obtain rfl : true = k := hk
      rw [if_pos rfl]
      refine ⟨fun σ' H' => ∃ ρ' L' s', RR (gx X c.kt) c.r0 c.H0 ρ' L' s' σ' H' ∧ OuS (gx X c.kt) c.r0 c.H0 c.W ρ' H' D (wLoop p b m s' L'), fun σ' H' h => ⟨m, Nat.lt_succ_self _, h⟩, ρ3, L3, s2, R2.go e3 t3, ?_⟩
      have o3 := OuS.ext o2 e3.toStb
      dsimp only at o3
      match hbb : b s2 L3, o3 with
      | some (.ok (.nx s4) L4), o3 => exact fun ρ' H'' σ'' st R' => ⟨ρ', L4, s4, R', OuS.ext o3 st⟩
      | some (.ok (.ct s4) L4), o3 => exact fun ρ' H'' σ'' st R' => ⟨ρ', L4, s4, R', OuS.ext o3 st⟩
      | some (.ok (.bk s4) L4), o3 => exact o3
      | some (.ok (.rt v) L4), o3 => exact o3
      | some (.err x L4), o3 => exact o3
      | none, o3 => exact o3.elim
end
end Fx

set_option Elab.async false
set_option linter.all false
set_option maxRecDepth 100000
set_option maxHeartbeats 1000000
/-! Fx part 12: defs, their calls, the law's end. -/
namespace Fx
open PySem L2

abbrev DS := List PV → Store → Option (Res PV)
def noE {α : Type} : Option (Res α) → Option (Res α)
  | some (.ok a L) => some (.ok a L)
  | _ => none
def runDef (n : Nat) (b : SF) : DS := fun args L => match b (args.map SV.val ++ List.replicate (n - args.length) SV.no) L with
  | some (.ok (.rt v) L') => some (.ok v L')
  | some (.ok (.nx _) L') => some (.ok .non L')
  | some (.err x L') => some (.err x L')
  | _ => none
def runDef0 (n : Nat) (b : SF) : DS := fun args L => noE (runDef n b args L)
def Safe (g : DS) : Prop := ∀ a L x L', g a L ≠ some (.err x L')
theorem safe_run0 {n : Nat} {b : SF} : Safe (runDef0 n b) := fun a L x L' h => by
  unfold runDef0 at h
  cases e : runDef n b a L with
  | none => rw [e] at h; cases h
  | some r =>
    rw [e] at h
    cases r <;> cases h
theorem safe_none : Safe (fun _ _ => none) := fun _ _ _ _ h => by cases h
/-- what a def keeps: it follows g -/
def spG (G : Gx) (k : Nat) (g : DS) : Sp := fun vs H Q E => ∃ ρ L args, Rst G ρ L H ∧ Reps G ρ H args vs ∧ args.length = k ∧ Ou G (RE G) (fun cls d _ H => E cls d H) ρ [] H Q (g args L)
theorem spG_len {G : Gx} {g : DS} {ps : List Str} : ∀ vs H Q E, spG G ps.length g vs H Q E → vs.length = ps.length := fun vs H Q E ⟨ρ, L, args, _, h, hl, _⟩ => by rw [← h.length, hl]
theorem rr_start {G : Gx} {ρ : List Addr} {L : Store} {H : Hp} {args : List PV} {vs : List V} {N : List Str} (t : Rst G ρ L H) (h : Reps G ρ H args vs) : RR G ρ H ρ L (args.map SV.val ++ List.replicate (N.length - args.length) SV.no) (L2.start N vs) H := by
  have hl := h.length
  have kind : ∀ (i : Nat) (x : SV), (args.map SV.val ++ List.replicate (N.length - args.length) SV.no)[i]? = some x → x = .no ∨ ∃ v, args[i]? = some v ∧ x = .val v := fun i x e => by
    by_cases hi : i < args.length
    · rw [List.getElem?_append_left (by simpa using hi), List.getElem?_map] at e
      cases e2 : args[i]? with
      | none => rw [e2] at e; cases e
      | some v => rw [e2] at e; cases e; exact .inr ⟨v, rfl, rfl⟩
    · rw [List.getElem?_append_right (by simpa using hi), List.getElem?_replicate] at e
      split at e
      · cases e; exact .inl rfl
      · cases e
  refine ⟨t, ⟨fun _ => 0, by unfold L2.start; simp [hl], fun i v e => ?_, fun i c e => ?_, fun i j c d e => ?_⟩, Ext.refl⟩
  · rcases kind i _ e with q | ⟨w, e2, q⟩
    · cases q
    · cases q
      obtain ⟨u, h1, h2⟩ := h.get e2
      refine ⟨u, ?_, h2⟩
      unfold L2.start
      rw [List.getElem?_append_left (by simpa using (List.getElem?_eq_some_iff.mp h1).1), List.getElem?_map, h1]
      rfl
  · rcases kind i _ e with q | ⟨w, e2, q⟩ <;> cases q
  · rcases kind i _ e with q | ⟨w, e2, q⟩ <;> cases q
/-- a def that lets nothing out -/
theorem def_run {X : Cx} {kt : Bool} {N : List Str} {k : Nat} {b : SF} {body : List Stmt} {vs : List V} {H : Hp} {Q : VK} {E : XK} (h : spG (gx X kt) k (runDef0 N.length b) vs H Q E)
    (hb : ∀ c : FC, c.kt = kt → ESs X c body b) : ∃ t, PSs X body t ∧ t { nx := fun _ H' => Q .non H', rt := Q } (L2.start N vs) H := by
  obtain ⟨ρ, L, args, t, hr, hl, o⟩ := h
  refine ⟨_, hb ⟨kt, ρ, H, fun _ _ _ _ => False⟩ rfl, ρ, L, _, rr_start t hr, ?_⟩
  unfold runDef0 runDef at o
  show OuS (gx X kt) ρ H (fun _ _ _ _ => False) ρ H _ (b (args.map SV.val ++ List.replicate (N.length - args.length) SV.no) L)
  match hbb : b (args.map SV.val ++ List.replicate (N.length - args.length) SV.no) L, o with
  | some (.ok (.rt v) L'), o => exact fun ρ' H' u e t' r => o ρ' H' u e t' r
  | some (.ok (.nx s) L'), o => exact fun ρ' H' σ' st R => o ρ' H' .non R.ext R.st rfl
  | some (.ok (.bk s) L'), o => exact o.elim
  | some (.ok (.ct s) L'), o => exact o.elim
  | some (.err x L'), o => exact o.elim
  | none, o => exact o.elim
theorem def_none {P : Program} {w : World} {K : PySem.W.Frag} {mg : Str → Option Value} {base : Heap} {x qual : Str} {st : Stmt} {f : Addr} {fd : FuncData} {N ps : List Str} {G : Gx} {k : Nat} (F : Fun K x qual st f fd) (S : FnScope N ps (defScope st)) : FnOk P w K mg base CX0 (k + 1) f fd ps (spG G ps.length fun _ _ => none) :=
  F.ok S spG_len fun cdv A outer s H vs Q E hr h => (show False from let ⟨_, _, _, _, _, _, o⟩ := h; o).elim

/-! ### calls -/
def eCall (n : Nat) (g : DS) (fa : AF) (ds : List PV) : EF := fun s L => bnd (fa s L) fun args L1 => if (args ++ ds).length = n then g (args ++ ds) L1 else none
section
variable {X : Cx} {c : FC} {k n : Nat} {f : Addr} {fd : FuncData} {ps : List Str} {g : DS} {dvs : List V} {ds : List Value} {dps : List PV} {x : Str} {p pos : Pos} {e : Expr} {es : List Expr} {fa : AF}
theorem ev_callD (F : FnOk X.prog X.w X.K X.mg X.base CX0 k f fd ps (spG (gx X c.kt) n g)) (hsf : Safe g) (hr : Room k X.A) (hg : Gl X x) (hm : X.mg x = some (.ref f)) (hk : PySem.W.keepIn X.K (.ref f) = true) (hb : Binds X.K fd ps ds) (hd : Vals dvs ds)
    (hdp : ∀ ρ H, Reps (gx X c.kt) ρ H dps dvs) (ha : AV X c (e :: es) fa) (hdb : (x == ("__debug__" : Str)) = false := by decide) (he : starEach (e :: es) X.env = (false, eval e X.env) :: starEach es X.env := by rfl) (hpl : (backTo pos (starEach es X.env)).any (·.1) = false := by rfl) :
    EV X c (.Call (.Name x p) (e :: es) [] pos) (eCall n g fa dps) := by
  refine pe_imp (pe_call F hr hg hm hk hb hd (E := E0) pass0 ha hdb he hpl) fun σ H Q q => ?_
  refine tOf.first (R := RA _) (R' := RE _) (k := fun s args L1 => if (args ++ dps).length = n then g (args ++ dps) L1 else none) q fun ρ L s args L1 ρ1 H1 vs r e1 q1 o => ?_
  split at o
  · rename_i hl
    refine ⟨ρ1, L1, args ++ dps, r.st, Reps.append q1 (hdp ρ1 H1), hl, ?_⟩
    match hgg : g (args ++ dps) L1, o with
    | some (.ok v L2), o => exact o
    | some (.err y L2), o => exact absurd hgg (hsf _ _ _ _)
    | none, o => exact o.elim
  · exact o.elim
theorem ev_call (F : FnOk X.prog X.w X.K X.mg X.base CX0 k f fd ps (spG (gx X c.kt) n g)) (hsf : Safe g) (hr : Room k X.A) (hg : Gl X x) (hm : X.mg x = some (.ref f)) (hk : PySem.W.keepIn X.K (.ref f) = true) (hb : Binds X.K fd ps [])
    (ha : AV X c (e :: es) fa) (hdb : (x == ("__debug__" : Str)) = false := by decide) (he : starEach (e :: es) X.env = (false, eval e X.env) :: starEach es X.env := by rfl) (hpl : (backTo pos (starEach es X.env)).any (·.1) = false := by rfl) :
    EV X c (.Call (.Name x p) (e :: es) [] pos) (eCall n g fa []) := ev_callD F hsf hr hg hm hk hb .nil (fun _ _ => rfl) ha hdb he hpl
end

/-! ### new containers -/
section
variable {X : Cx} {c : FC} {es : List Expr} {fa : AF} {pos : Pos}
def nLst (fa : AF) : CF := fun s L => bnd (fa s L) fun xs L1 => if xs.length ≤ sizeLine then some (.ok (.lst xs) L1) else none
theorem nv_lst (h : AV X c es fa) : NV X c (.List es pos) (nLst fa) := by
  refine pe_imp (pe_lst h) fun σ H Q q => ?_
  refine tOf.first (R := RA _) (R' := RN _) (k := fun s xs L1 => if xs.length ≤ sizeLine then some (.ok (.lst xs) L1) else none) q fun ρ L s xs L1 ρ1 H1 vs r e1 q1 o => ?_
  split at o
  · rename_i hz
    refine ⟨by rw [← Reps.length q1]; exact hz, fun p hp => ?_⟩
    obtain ⟨h1, h2, h3, h4⟩ := Cell.new r.st q1 hp
    exact o ρ1 _ _ h1 h2 ⟨p, rfl, h3, hp, h4⟩
  · exact o.elim
def nDk : CF := fun _ L => some (.ok (.dk []) L)
def nDt : CF := fun _ L => some (.ok (.dt []) L)
theorem nv_dk : NV X c (.Dict [] [] pos) nDk := pe_imp pe_dnewK fun σ H Q q => by
  obtain ⟨ρ, L, s, r, o⟩ := q
  intro p hp
  exact o ρ _ _ (Ext.new hp) (r.st.new hp) ⟨p, rfl, r.st.fresh hp, hp, [], upd_same, rfl, rfl⟩
theorem nv_dt : NV X c (.Dict [] [] pos) nDt := pe_imp pe_dnewT fun σ H Q q => by
  obtain ⟨ρ, L, s, r, o⟩ := q
  intro p hp
  exact o ρ _ _ (Ext.new hp) (r.st.new hp) ⟨p, rfl, r.st.fresh hp, hp, [], upd_same, rfl, rfl⟩
/-- a new object goes into the store -/
def eNew (fc : CF) : EF := fun s L => bnd (fc s L) fun w L1 => some (.ok (.loc L1.length) (L1 ++ [w]))
theorem ev_new {e : Expr} {fc : CF} (h : NV X c e fc) : EV X c e (eNew fc) := by
  refine pe_imp h fun σ H Q q => ?_
  obtain ⟨ρ, L, s, r, o⟩ := q
  refine ⟨ρ, L, s, r, ?_⟩
  unfold eNew at o
  match hf : fc s L, o with
  | none, o => exact o
  | some (.err x L1), o => exact o
  | some (.ok w L1), o =>
    intro ρ1 H1 v e1 t1 q1
    obtain ⟨p, rfl, hp, hn, hc⟩ := q1
    obtain ⟨ob, hob, mu⟩ := hc.there
    have g0 : Stb0 ρ1 (ρ1 ++ [p]) H1 H1 := Stb0.grow hob mu
    have hl := t1.len
    refine o (ρ1 ++ [p]) H1 _ ⟨⟨?_, e1.there, e1.tup, e1.frz⟩, e1.keep⟩ ⟨by simp [hl], List.nodup_append.mpr ⟨t1.nd, by simp, fun a ha b hb z => ?_⟩, fun n d a hd ha => ?_⟩ ⟨p, rfl, ?_⟩
    · obtain ⟨new, rfl, hnew⟩ := e1.pre
      refine ⟨new ++ [p], by simp, fun a ha => ?_⟩
      rcases List.mem_append.mp ha with q | q
      · exact hnew a q
      · obtain rfl : a = p := by simpa using q
        exact hn
    · obtain rfl : b = p := by simpa using hb
      rw [z] at ha
      exact hp ha
    · by_cases hi : n < L1.length
      · rw [List.getElem?_append_left hi] at hd
        rw [List.getElem?_append_left (by omega)] at ha
        exact (t1.cell n d a hd ha).mono0 g0 rfl
      · have hi' : n = L1.length := by
          have := (List.getElem?_eq_some_iff.mp hd).1
          simp at this
          omega
        subst hi'
        rw [List.getElem?_append_right (Nat.le_refl _)] at hd
        rw [List.getElem?_append_right (by omega), ← hl] at ha
        simp at hd ha
        subst hd ha
        exact hc.mono0 g0 rfl
    · rw [List.getElem?_append_right (by omega), ← hl]
      simp
end

/-! ### the law's end -/
theorem end_law {K : PySem.W.Frag} {mg : Str → Option Value} {kt : Bool} {g : DS} {P : Program} {w : World} {base : Heap} {k : Nat} {fa : Addr} {fd : FuncData} {L' : List Int → Store}
    (F : FnOk P w K mg base CX0 k fa fd ["script"] (spG ⟨K, mg, kt⟩ 1 g)) : FnOk P w K mg base CX0 k fa fd ["script"] (fun vs H Q _ => ∃ (a : Addr) (ns : List Int), vs = [.ref a] ∧ Only H ∧ SqL K H a (ns.map V.int) ∧ g [.scr ns] [] = some (.ok (.bl true) (L' ns)) ∧ ∀ H', Q (.bl true) H') := by
  refine F.imp fun vs H Q E ⟨a, ns, e, ho, hs, hg, q⟩ => ?_
  subst e
  refine ⟨[], [], [.scr ns], ⟨rfl, List.nodup_nil, fun n c a h => by simp at h⟩, ⟨_, _, rfl, ⟨a, rfl, ?_⟩, rfl⟩, rfl, ?_⟩
  · rcases hs with (h | ⟨o, h⟩) | h
    · rcases ho a with q | ⟨o, xs, q⟩
      · rw [h] at q; cases q
      · rw [h] at q; cases q
    · exact .inl ⟨by simp, o, h⟩
    · exact .inr h
  · rw [hg]
    intro ρ' H' b _ _ r
    obtain rfl : b = .bl true := r
    exact q H'
end Fx

set_option Elab.async false
set_option linter.all false
set_option maxRecDepth 100000
set_option maxHeartbeats 1000000
/-! Fx part 13: sorted, [::-1], dict.get. -/
namespace Fx
open PySem L2

/-! ### sorted -/
def sortI (ks : List Int) : List Int := ks.mergeSort (fun a b => decide (a ≤ b))
def leS (a b : Str) : Bool := decide (a.cps.toList ≤ b.cps.toList)
def sortS (ks : List Str) : List Str := ks.mergeSort leS
theorem sortI_perm (ks : List Int) : (sortI ks).Perm ks := List.mergeSort_perm _ _
theorem sortI_sorted (ks : List Int) : (sortI ks).Pairwise (· ≤ ·) := by
  have := List.pairwise_mergeSort (le := fun a b : Int => decide (a ≤ b)) (fun a b c h1 h2 => by simp at *; omega) (fun a b => by simp; omega) ks
  exact this.imp fun h => by simpa using h
theorem sortI_eq {ys ks : List Int} (h : ys.Perm ks) (s : ys.Pairwise (· ≤ ·)) : ys = sortI ks :=
  List.Perm.eq_of_pairwise (le := (· ≤ ·)) (fun a b _ _ h1 h2 => Int.le_antisymm h1 h2) s (sortI_sorted ks) (h.trans (sortI_perm ks).symm)
theorem str_ext {a b : Str} (h : a.cps.toList = b.cps.toList) : a = b := by
  obtain ⟨⟨x⟩⟩ := a
  obtain ⟨⟨y⟩⟩ := b
  cases (show x = y from h)
  rfl
theorem leS_trans {a b c : Str} (h1 : leS a b = true) (h2 : leS b c = true) : leS a c = true := by
  unfold leS at *
  simp only [decide_eq_true_eq] at *
  exact List.le_trans h1 h2
theorem leS_total (a b : Str) : (leS a b || leS b a) = true := by
  unfold leS
  simp only [Bool.or_eq_true, decide_eq_true_eq]
  exact List.le_total a.cps.toList b.cps.toList
theorem leS_antisymm {a b : Str} (h1 : leS a b = true) (h2 : leS b a = true) : a = b := by
  unfold leS at *
  simp only [decide_eq_true_eq] at *
  exact str_ext (List.le_antisymm h1 h2)
theorem sortS_perm (ks : List Str) : (sortS ks).Perm ks := List.mergeSort_perm _ _
theorem sortS_sorted (ks : List Str) : (sortS ks).Pairwise (fun a b => leS a b = true) := List.pairwise_mergeSort (le := leS) (fun _ _ _ h1 h2 => leS_trans h1 h2) leS_total ks
theorem rising_pw : ∀ (r : List Str) (p : Str), PyProof.Rows.risingS p r = true → (p :: r).Pairwise (fun a b => leS a b = true)
  | [], p, _ => by simp
  | x :: r, p, h => by
    have h' : (!Spec.ltCps x.cps.toList p.cps.toList) = true ∧ PyProof.Rows.risingS x r = true := by
      have := h
      unfold PyProof.Rows.risingS at this
      simpa using this
    have ih := rising_pw r x h'.2
    have hx : leS p x = true := by
      have h1 := h'.1
      rw [PyProof.Rows.ltCps_eq] at h1
      unfold leS
      simp only [Bool.not_eq_true', decide_eq_false_iff_not] at h1
      simp only [decide_eq_true_eq]
      exact List.not_lt.mp h1
    refine List.pairwise_cons.mpr ⟨fun y hy => ?_, ih⟩
    rcases List.mem_cons.mp hy with e | e
    · rw [e]; exact hx
    · exact leS_trans hx ((List.pairwise_cons.mp ih).1 y e)
theorem sortS_eq {ys ks : List Str} (h : ys.Perm ks) (s : PyProof.Rows.sortedS ys = true) : ys = sortS ks := by
  have hp : ys.Pairwise (fun a b => leS a b = true) := by
    cases ys with
    | nil => simp
    | cons x r => exact rising_pw r x s
  exact List.Perm.eq_of_pairwise (fun a b _ _ h1 h2 => leS_antisymm h1 h2) hp (sortS_sorted ks) (h.trans (sortS_perm ks).symm)

def strKeys : List (Key × PV) → Option (List Str)
  | [] => some []
  | (.inr x, _) :: r => (strKeys r).map (x :: ·)
  | _ :: _ => none
def intKeys : List (Key × PV) → Option (List Int)
  | [] => some []
  | (.inl x, _) :: r => (intKeys r).map (x :: ·)
  | _ :: _ => none
theorem strKeys_some : ∀ {kvs : List (Key × PV)} {ks : List Str}, strKeys kvs = some ks → kvs.map (·.1) = ks.map Sum.inr
  | [], ks, h => by cases h; rfl
  | (.inr x, v) :: r, ks, h => by
    unfold strKeys at h
    cases e : strKeys r with
    | none => rw [e] at h; cases h
    | some ms => rw [e] at h; cases h; simp [strKeys_some e]
  | (.inl x, v) :: r, ks, h => by cases h
theorem intKeys_some : ∀ {kvs : List (Key × PV)} {ks : List Int}, intKeys kvs = some ks → kvs.map (·.1) = ks.map Sum.inl
  | [], ks, h => by cases h; rfl
  | (.inl x, v) :: r, ks, h => by
    unfold intKeys at h
    cases e : intKeys r with
    | none => rw [e] at h; cases h
    | some ms => rw [e] at h; cases h; simp [intKeys_some e]
  | (.inr x, v) :: r, ks, h => by cases h
/-- sorted(d), d a dict of texts or of ints; a list of ints -/
def nSorted (L : Store) (x : Hd) : Option Cell := match view L x with
  | some (.dk kvs) => match strKeys kvs with
    | some ks => if ks.length < 64 then some (.lst ((sortS ks).map PV.str)) else none
    | none => match intKeys kvs with
      | some ks => if ks.length < 64 then some (.lst ((sortI ks).map PV.int)) else none
      | none => none
  | some (.lst xs) => match intsOf xs with
    | some ns => some (.lst ((sortI ns).map PV.int))
    | none => none
  | _ => none
theorem reps_strs {G : Gx} {ρ : List Addr} {H : Hp} : ∀ ns : List Str, Reps G ρ H (ns.map PV.str) (ns.map V.str)
  | [] => rfl
  | n :: ns => ⟨_, _, rfl, rfl, reps_strs ns⟩
def rSortA (K : PySem.W.Frag) : List V → Hp → VK → Prop := fun xs H Q =>
  ((∃ (a : Addr) (kvs : List (Key × V)) (ks : List Str), xs = [.ref a] ∧ Rd H a (.dK kvs) ∧ kvs.map (·.1) = ks.map Sum.inr ∧ ks.length < 64 ∧ ∀ ys p, ys.Perm ks → PyProof.Rows.sortedS ys = true → H p = none → Q (.ref p) (upd H p (.lst (ys.map V.str)))) ∨
  (∃ (a : Addr) (kvs : List (Key × V)) (ks : List Int), xs = [.ref a] ∧ Rd H a (.dK kvs) ∧ kvs.map (·.1) = ks.map Sum.inl ∧ ks.length < 64 ∧ ∀ (ys : List Int) (p : Addr), ys.Perm ks → ys.Pairwise (· ≤ ·) → H p = none → Q (.ref p) (upd H p (.lst (ys.map V.int))))) ∨
  rSortedI K xs H Q
theorem call_sortA {X : Cx} (hc : X.calm = true) : CallR X (.builtin "sorted") (rSortA X.K) := ((call_sortedD hc).or (call_sortedDI hc)).or cr_sortedI
theorem cn_sorted {G : Gx} {K : PySem.W.Frag} (hK : G.K = K) : CalN G nSorted (rSortA K) := by
  subst hK
  intro ρ L H x v z Q t hx hz k
  unfold nSorted at hz
  cases hw : view L x with
  | none => rw [hw] at hz; cases hz
  | some vw =>
    rw [hw] at hz
    have hr := view_rep t hx hw
    cases vw with
    | dk kvs =>
      obtain ⟨a, l, rfl, ha, hs⟩ := hr
      dsimp only at hz
      cases hk : strKeys kvs with
      | some ks =>
        rw [hk] at hz
        dsimp only at hz
        split at hz
        · rename_i h64
          cases hz
          refine .inl (.inl ⟨a, l, ks, rfl, ha, hs.1.trans (strKeys_some hk), h64, fun ys p hp hq hn => ?_⟩)
          rw [sortS_eq hp hq]
          obtain ⟨h1, h2, h3, h4⟩ := Cell.new t (reps_strs (G := G) (ρ := ρ) (H := H) (sortS ks)) hn
          exact k ρ _ p h1 h2 h3 hn h4
        · cases hz
      | none =>
        rw [hk] at hz
        dsimp only at hz
        cases hi : intKeys kvs with
        | none => rw [hi] at hz; cases hz
        | some ks =>
          rw [hi] at hz
          dsimp only at hz
          split at hz
          · rename_i h64
            cases hz
            refine .inl (.inr ⟨a, l, ks, rfl, ha, hs.1.trans (intKeys_some hi), h64, fun ys p hp hq hn => ?_⟩)
            rw [sortI_eq hp hq]
            obtain ⟨h1, h2, h3, h4⟩ := Cell.new t (reps_ints (G := G) (ρ := ρ) (H := H) (sortI ks)) hn
            exact k ρ _ p h1 h2 h3 hn h4
          · cases hz
    | lst xs =>
      obtain ⟨a, vs, rfl, ha, hs⟩ := hr
      dsimp only at hz
      cases hi : intsOf xs with
      | none => rw [hi] at hz; cases hz
      | some ns =>
        rw [hi] at hz
        cases hz
        have := intsOf_rep hi hs
        subst this
        refine .inr ⟨a, ns, rfl, .inl ha, fun ys p hp hq hn => ?_⟩
        rw [sortI_eq hp hq]
        obtain ⟨h1, h2, h3, h4⟩ := Cell.new t (reps_ints (G := G) (ρ := ρ) (H := H) (sortI ns)) hn
        exact k ρ _ p h1 h2 h3 hn h4
    | _ => cases hz
section
variable {X : Cx} {c : FC} {a b e o : Expr} {f : FF Hd} {g g' : EF} {pos p apos cpos : Pos}
theorem nv_sorted (hc : X.calm = true) (hg : Gl X "sorted") (hm : X.mg "sorted" = none) (ha : HV X c a f) (he : starEach (a :: []) X.env = (false, eval a X.env) :: starEach [] X.env := by rfl) : NV X c (.Call (.Name "sorted" p) [a] [] pos) (nCall1 nSorted f) :=
  nv_cB (call_sortA hc) (cn_sorted rfl) hg hm (by decide +kernel) ha (by decide) (by decide) he

/-! ### d.get(k, x) -/
def isDv : Option Vw → Bool
  | some (.dk _) => true
  | some (.dt _) => true
  | _ => false
def eGet (kt : Bool) (f : FF Hd) (g g' : EF) : EF := fun s L => bnd (f s L) fun x L1 => if isDv (view L1 x) = true then bnd (g s L1) fun y L2 => bnd (g' s L2) fun z L3 => match view L3 x with
  | some w => (dLook' kt w y).map fun o => .ok (o.getD z) L3
  | none => none else none
theorem ev_get {kt : Bool} (hu : X.A.units + 1 < cLine) (hk : c.kt = kt) (ha : HV X c o f) (hb : EV X c a g) (hd : EV X c b g') (m : M2 X o "get" apos a b cpos := by exact ⟨rfl, rfl, rfl, rfl⟩) : EV X c (.Call (.Attribute o "get" apos) [a, b] [] cpos) (eGet kt f g g') := by
  subst hk
  refine pe_imp (pe_dget2 hu ha hb hd m) fun σ H Q q => ?_
  refine tOf.first (R := RH _) (R' := RE _) (k := fun s x L1 => if isDv (view L1 x) = true then bnd (g s L1) fun y L2 => bnd (g' s L2) fun z L3 => match view L3 x with
    | some w => (dLook' c.kt w y).map fun o => .ok (o.getD z) L3
    | none => none else none) q fun ρ L s x L1 ρ1 H1 v r e1 q1 o1 => ?_
  split at o1
  · rename_i hv
    have hd : ∃ p, v = .ref p ∧ IsD H1 p := by
      cases hw : view L1 x with
      | none => rw [hw] at hv; cases hv
      | some w =>
        rw [hw] at hv
        have hr := view_rep r.st q1 hw
        cases w with
        | dk kvs => obtain ⟨a, l, rfl, ha, _⟩ := hr; exact ⟨a, rfl, .inl ⟨l, ha⟩⟩
        | dt kvs => obtain ⟨a, l, rfl, ha, _⟩ := hr; exact ⟨a, rfl, .inr ⟨l, ha⟩⟩
        | _ => cases hv
    obtain ⟨p, rfl, hd⟩ := hd
    refine ⟨p, rfl, hd, ρ1, L1, s, r, Ou.bind (R := RE _) (R' := RE _) o1 fun y L2 ρ2 H2 yv _ e2 t2 q2 o2 => ⟨ρ2, L2, s, r.go e2 t2, Ou.bind (R := RE _) (R' := RE _) o2 fun z L3 ρ3 H3 zv _ e3 t3 q3 o3 => ?_⟩⟩
    have q1' := HRep.ext (e2.trans e3) q1
    have q2' := Rep.mono e3.toStb q2
    cases hw : view L3 x with
    | none => rw [hw] at o3; exact o3.elim
    | some w =>
      rw [hw] at o3
      dsimp only at o3
      cases hl : dLook' c.kt w y with
      | none => rw [hl] at o3; exact o3.elim
      | some oo =>
        rw [hl] at o3
        obtain ⟨a', rr, ea, hg, k1, k2⟩ := dget_of' (G := gx X c.kt) (view_rep t3 q1' hw) q2' hl
        cases ea
        refine ⟨rr, hg, ?_⟩
        cases oo with
        | none =>
          rw [k2 rfl]
          exact o3 ρ3 H3 _ Ext.refl t3 q3
        | some u =>
          obtain ⟨uv, rfl, ru⟩ := k1 u rfl
          exact o3 ρ3 H3 _ Ext.refl t3 ru
  · exact o1.elim

/-! ### x[::-1] -/
def nRev (L : Store) (x : Hd) : Option Cell := match view L x with
  | some (.lst xs) => some (.lst xs.reverse)
  | _ => none
theorem nv_rev {k : Nat} {p1 p2 p3 : Pos} (ha : HV X c a f) : NV X c (.Subscript a (.Slice none none (some (.UnaryOp .USub (.Constant (.int 1) k p1) p2)) p3) pos) (nCall1 nRev f) := by
  refine pe_imp (pe_revL ha) fun σ H Q q => ?_
  refine tOf.first (R := RH _) (R' := RN _) (k := fun s x L1 => ret (nRev L1 x) L1) q fun ρ L s x L1 ρ1 H1 v r e1 q1 o => ?_
  obtain ⟨z, hz, kk⟩ := Ou.ret o
  unfold nRev at hz
  cases hw : view L1 x with
  | none => rw [hw] at hz; cases hz
  | some w =>
    rw [hw] at hz
    have hr := view_rep r.st q1 hw
    cases w with
    | lst xs =>
      cases hz
      obtain ⟨a, vs, rfl, ha, hs⟩ := hr
      refine ⟨a, vs, rfl, .inl ha, fun p hp => ?_⟩
      obtain ⟨h1, h2, h3, h4⟩ := Cell.new r.st hs.reverse hp
      exact kk ρ1 _ _ h1 h2 ⟨p, rfl, h3, hp, h4⟩
    | _ => cases hz
end
end Fx

set_option Elab.async false
set_option linter.all false
set_option maxRecDepth 100000
set_option maxHeartbeats 1000000
/-! Fx part 14: a tuple turned about. -/
namespace FT
open PySem PySem.Spec PyProof.Rows L2 HT
section
variable {prog : Program} {w : World} {A : Around} {E : Value → Shared → Prop} {s : Shared}
theorem adjust_rev (n : Nat) : Builtin.Slice.sliceAdjust none none (-1) (n : Int) = ((n : Int) - 1, -1) := by
  unfold Builtin.Slice.sliceAdjust
  simp
theorem places_rev (n : Nat) : Builtin.Slice.slicePlaces ((n : Int) - 1) (-1) (-1) = n := by
  unfold Builtin.Slice.slicePlaces
  simp
  all_goals omega
theorem sliceApplied_rev {sl : Addr} {vl vu vs : Value} {n : Nat} {Q : Int × Int × Nat → Shared → Prop} (hs : s.heap.IsSliceOf sl vl vu vs) (pl : IsPart vl none) (pu : IsPart vu none) (ps : IsPart vs (some (-1)))
    (h : Q ((n : Int) - 1, -1, n) s) : wpAny (model prog w) A (Builtin.Slice.sliceApplied (.ref sl) (pure (n : Int))) Q E s := by
  obtain ⟨os, hos, hcs, hds⟩ := id hs
  unfold Builtin.Slice.sliceApplied Builtin.Slice.sliceFields
  refine wpAny_bind (wpAny_bind (wpAny_field hos hds (x := vl) rfl (wpAny_bind (wpAny_field hos hds (x := vu) rfl (wpAny_bind (wpAny_field hos hds (x := vs) rfl (wpAny_pure ?_)))))))
  refine wpAny_bind (slicePart_ ps ?_)
  show wpAny _ _ (if ((-1 : Int) == 0) = true then _ else _) _ _ s
  rw [if_neg (by decide)]
  refine wpAny_bind (slicePart_ pl (wpAny_bind (slicePart_ pu (wpAny_bind (wpAny_pure ?_)))))
  show wpAny _ _ (match Builtin.Slice.sliceAdjust none none (-1) (n : Int) with | (lo, hi) => pure (lo, (-1 : Int), Builtin.Slice.slicePlaces lo hi (-1))) _ _ s
  rw [adjust_rev n]
  show wpAny _ _ (pure ((n : Int) - 1, (-1 : Int), Builtin.Slice.slicePlaces ((n : Int) - 1) (-1) (-1))) _ _ s
  rw [places_rev]
  exact wpAny_pure h
theorem pick_rev (xs : Array Value) : ((List.range xs.size).filterMap fun (m : Nat) => xs[((xs.size : Int) - 1 + (m : Int) * (-1)).toNat]?).toArray = xs.toList.reverse.toArray := by
  congr 1
  obtain ⟨l⟩ := xs
  show (List.range l.length).filterMap (fun (m : Nat) => (List.toArray l)[((l.length : Int) - 1 + (m : Int) * (-1)).toNat]?) = l.reverse
  have e : ∀ k, k ≤ l.length → (List.range k).filterMap (fun (m : Nat) => (List.toArray l)[((l.length : Int) - 1 + (m : Int) * (-1)).toNat]?) = l.reverse.take k := by
    intro k hk
    induction k with
    | zero => simp
    | succ k ih =>
      have hk' : k < l.length := hk
      rw [List.range_succ, List.filterMap_append, ih (Nat.le_of_lt hk')]
      have e1 : ((l.length : Int) - 1 + (k : Int) * (-1)).toNat = l.length - 1 - k := by omega
      have e2 : l.reverse[k]? = l[l.length - 1 - k]? := by rw [List.getElem?_reverse hk']
      have e3 : l[l.length - 1 - k]? = some (l[l.length - 1 - k]'(by omega)) := by simp
      rw [List.take_add_one, e2]
      simp only [List.filterMap_cons, e1, List.getElem?_toArray, e3, List.filterMap_nil, Option.toList]
  have e9 := e l.length (Nat.le_refl _)
  rw [List.take_of_length_le (by simp)] at e9
  exact e9
theorem getItem_tuple_rev {t sl : Addr} {items : Array Value} {vl vu vs : Value} {Q : Value → Shared → Prop} (ht : IsTup s.heap t items) (hs : s.heap.IsSliceOf sl vl vu vs) (pl : IsPart vl none) (pu : IsPart vu none) (ps : IsPart vs (some (-1)))
    (h : Q (.ref s.heap.objs.size) { s with heap := s.heap.push { cls := .type "tuple", data := .seq items.toList.reverse.toArray } })
    (hsz : items.size ≤ sizeLine) : wpAny (model prog w) A (getItem (.ref t) (.ref sl)) Q E s := by
  have htake : sizeOk (.seq items.toList.reverse.toArray) := by
    show (items.toList.reverse.toArray).size ≤ sizeLine
    rw [List.size_toArray, List.length_reverse, Array.length_toList]
    exact hsz
  obtain ⟨os, hos, hcs, hds⟩ := id hs
  have hTs : s.TypeIs (.ref sl) "slice" := ⟨os, hos, hcs⟩
  unfold getItem
  try with_reducible refine wpAny_holding ?_
  first | refine wpAny_bind (wpAny_pure ?_) | skip
  refine wpAny_bind (wpAny_sequenceKey ht.typeIs (by decide) ?_)
  refine wpAny_bind (wpAny_callSpecial?_slot (name := Str.ofString "__getitem__") ht.typeIs PyProof.Rows.slot_tuple_getitem
    (wpAny_call_entry PyProof.Rows.slot_tuple_getitem ht.typeIs entry_tuple_getitem ?_ (args_tuple_getitem _ _)))
  show wpAny _ _ (Builtin.Tuple.tupleItemsOf (.ref t) >>= _) _ _ s
  refine wpAny_bind (tupleItemsOf_ ht ?_)
  refine wpAny_bind (wpAny_typeOf hTs ?_)
  rw [if_pos (by decide)]
  refine wpAny_bind (sliceApplied_rev hs pl pu ps ?_)
  have hno : ¬ ((((items.size : Int) - 1) == 0 && (-1 : Int) == 1 && items.size == items.size) = true) := by
    intro q
    rw [Bool.and_eq_true, Bool.and_eq_true] at q
    exact absurd q.1.2 (by decide)
  show wpAny _ _ (if (((items.size : Int) - 1) == 0 && (-1 : Int) == 1 && items.size == items.size) = true then _ else _) _ _ s
  rw [if_neg hno, pick_rev]
  first
    | exact wpAny_bind (m := Builtin.Tuple.tupleExact _) (wpAny_newObj_type (wpAny_pure ⟨_, rfl, wpAny_pure h⟩) htake)
    | exact wpAny_bind (m := Builtin.Tuple.tupleExact _) (wpAny_newObj_type (wpAny_bind (wpAny_pure (wpAny_pure ⟨_, rfl, wpAny_pure h⟩))) htake)
    | exact wpAny_bind (wpAny_bind (m := Builtin.Tuple.tupleExact _) (wpAny_newObj_type (wpAny_pure (wpAny_pure ⟨_, rfl, wpAny_pure h⟩)) htake))
    | exact wpAny_bind (wpAny_bind (m := Builtin.Tuple.tupleExact _) (wpAny_newObj_type (wpAny_pure ⟨_, rfl, wpAny_pure h⟩) htake))
end
def tRevT (m : Bool) (K : PySem.W.Frag) (te : TE) : TE := fun σ H Q => te σ H fun x H1 => ∃ a xs, x = .ref a ∧ SqT K H1 a xs ∧ ∀ p u, H1 p = none → FT.TObj m xs.reverse u → Q (.ref p) (upd H1 p u)
theorem pe_revT {m : Bool} {X : Cx} {e : Expr} {te : TE} {k : Nat} {p1 p2 p3 pos : Pos} (he : PE X e te) : PE X (.Subscript e (.Slice none none (some (.UnaryOp .USub (.Constant (.int 1) k p1) p2)) p3) pos) (tRevT m X.K te) := by
  refine ⟨fun pins s σ H Q I h => ?_⟩
  refine Subscript_ (thn (he.run pins s σ H _ I h) fun v s1 ⟨x, H1, I1, r1, q1⟩ => ?_)
  obtain ⟨a, xs, ex, hx, q⟩ := q1
  subst ex
  cases r1
  have hst : PO X (some (.UnaryOp .USub (.Constant (.int 1) k p1) p2)) (tPart (tUn (rU fun i => .int (-i)) (tC (.int 1)))) := po_some (pe_un un_neg pe_int)
  refine wpAny_Slice (thn (po_none.run pins s1 σ H1 (fun o H2 => o = none ∧ H2 = H1) I1 ⟨rfl, rfl⟩) fun vl s2 ⟨l, H2, I2, pl, el, e2⟩ => ?_)
  subst el e2
  refine thn (po_none.run pins s2 σ H2 (fun o H3 => o = none ∧ H3 = H2) I2 ⟨rfl, rfl⟩) fun vu s3 ⟨u, H3, I3, pu, eu, e3⟩ => ?_
  subst eu e3
  refine thn (hst.run pins s3 σ H3 (fun o H4 => o = some (-1) ∧ H4 = H3) I3 ⟨1, rfl, -1, rfl, rfl, rfl⟩) fun vs s4 ⟨o, H4, I4, ps, eo, e4⟩ => ?_
  subst eo e4
  have I5 : Inv X pins σ H4 { s4 with heap := s4.heap.push { cls := .type "slice", data := .fields #[vl, vu, vs] } } := I4.kept (t' := s4.toks) fun b ob q => Heap.get?_push_of_some _ q
  obtain ⟨its, r, ht, hz⟩ := I5.tuple hx
  have hlen := r.length
  show wpAny (model X.prog X.w) X.A (subscriptTail e (.Slice none none (some (.UnaryOp .USub (.Constant (.int 1) k p1) p2)) p3) (.ref a) (.ref s4.heap.objs.size)) (EP X pins σ Q) X.xe { s4 with heap := s4.heap.push { cls := .type "slice", data := .fields #[vl, vu, vs] } }
  refine tail_any (ops := [.ref a, .ref s4.heap.objs.size]) ht.typeIs (PyProof.Rows.slot_tuple_getitem.lookup) ?_ (by with_unfolding_all rfl)
  refine getItem_tuple_rev ht (Heap.IsSliceOf.new _ vl vu vs) pl pu ps ?_ (by rw [List.size_toArray]; omega)
  exact ⟨.ref _, _, I5.laid (t' := s4.toks) (o := FT.mkT m _ xs.reverse) (fun b ob q => Heap.get?_push_of_some _ q) (Nat.le_refl _) (FT.mkT_ok (Heap.get?_push_size _ rfl) rfl rfl r.reverse (by rw [List.length_reverse]; exact hz)), rfl, q _ _ (I5.hok.fresh (Nat.le_refl _)) (FT.mkT_obj rfl)⟩
end FT
namespace Fx
open PySem L2
def hRevT (L : Store) (x : Hd) : Option PV := match view L x with
  | some (.tup xs) => some (.tup xs.reverse)
  | _ => none
theorem ev_revT {X : Cx} {c : FC} {a : Expr} {f : FF Hd} {pos : Pos} {k : Nat} {p1 p2 p3 : Pos} (ha : HV X c a f) : EV X c (.Subscript a (.Slice none none (some (.UnaryOp .USub (.Constant (.int 1) k p1) p2)) p3) pos) (eCall1 hRevT f) := by
  refine pe_imp (FT.pe_revT (m := c.kt) ha) fun σ H Q q => ?_
  refine tOf.first (R := RH _) (R' := RE _) (k := fun s x L1 => ret (hRevT L1 x) L1) q fun ρ L s x L1 ρ1 H1 v r e1 q1 o => ?_
  obtain ⟨z, hz, kk⟩ := Ou.ret o
  unfold hRevT at hz
  cases hw : view L1 x with
  | none => rw [hw] at hz; cases hz
  | some w =>
    rw [hw] at hz
    have hr := view_rep r.st q1 hw
    cases w with
    | tup xs =>
      cases hz
      obtain ⟨a, vs, rfl, ha, hs⟩ := hr
      exact ⟨a, vs, rfl, ha, fun p u hp hu => kk ρ1 _ _ (Ext.new hp) (r.st.new hp) (Rep.tupNew r.st hs.reverse hp hu)⟩
    | _ => cases hz
end Fx

set_option Elab.async false
set_option linter.all false
set_option maxRecDepth 100000
set_option maxHeartbeats 1000000
/-! Fx part 15: lists put together; short forms. -/
namespace Fx
open PySem L2
section
variable {X : Cx} {c : FC} {a b e : Expr} {f g : EF} {pos p : Pos} {x : Str}
def nAdd (f g : EF) : CF := fun s L => bnd (f s L) fun x L1 => bnd (g s L1) fun y L2 => match x, y with
  | .lst a, .lst b => if a.length + b.length ≤ sizeLine then some (.ok (.lst (a ++ b)) L2) else none
  | _, _ => none
theorem nv_add (ha : EV X c a f) (hb : EV X c b g) : NV X c (.BinOp a .Add b pos) (nAdd f g) := by
  refine pe_imp (pe_op op_catF ha hb) fun σ H Q q => ?_
  refine tOf.first (R := RE _) (R' := RN _) (k := fun s x L1 => bnd (g s L1) fun y L2 => match x, y with
    | .lst a, .lst b => if a.length + b.length ≤ sizeLine then some (.ok (.lst (a ++ b)) L2) else none
    | _, _ => none) q fun ρ L s x L1 ρ1 H1 v r e1 q1 o => ?_
  refine ⟨ρ1, L1, s, r, Ou.bind (R := RE _) (R' := RN _) o fun y L2 ρ2 H2 w _ e2 t2 q2 o2 => ?_⟩
  have q1' := Rep.mono e2.toStb q1
  split at o2
  · split at o2
    · rename_i hz
      obtain ⟨p1, o1, vs, rfl, _, h1, h2⟩ := q1'
      obtain ⟨p2, o3, ws, rfl, _, h3, h4⟩ := q2
      refine ⟨p1, p2, vs, ws, rfl, rfl, .inr ⟨_, h1⟩, .inr ⟨_, h3⟩, by rw [← h2.length, ← h4.length]; exact hz, fun p hp => ?_⟩
      obtain ⟨k1, k2, k3, k4⟩ := Cell.new t2 (h2.append h4) hp
      exact o2 ρ2 _ _ k1 k2 ⟨p, rfl, k3, hp, k4⟩
    · exact o2.elim
  · exact o2.elim
theorem vr (i : Nat) (hN : X.N[i]? = some x := by rfl) (hv : Vis X.env.scope x := by first | exact Or.inl rfl | exact Or.inr (Or.inl rfl) | exact Or.inr (Or.inr rfl)) (hd : (x == ("__debug__" : Str)) = false := by decide) (hcd : (x == ("__classdict__" : Str)) = false := by decide) :
    EV X c (.Name x pos) (eVar i) := ev_var hN hv hd hcd
theorem vh (i : Nat) (hN : X.N[i]? = some x := by rfl) (hv : Vis X.env.scope x := by first | exact Or.inl rfl | exact Or.inr (Or.inl rfl) | exact Or.inr (Or.inr rfl)) (hd : (x == ("__debug__" : Str)) = false := by decide) (hcd : (x == ("__classdict__" : Str)) = false := by decide) :
    HV X c (.Name x pos) (hE (eVar i)) := hv_e (ev_var hN hv hd hcd)
theorem vo (i : Nat) (hN : X.N[i]? = some x := by rfl) (hv : Vis X.env.scope x := by first | exact Or.inl rfl | exact Or.inr (Or.inl rfl) | exact Or.inr (Or.inr rfl)) (hd : (x == ("__debug__" : Str)) = false := by decide) (hcd : (x == ("__classdict__" : Str)) = false := by decide) :
    HV X c (.Name x pos) (hOwn i) := hv_own hN hv hd hcd
end
theorem ev_cl {X : Cx} {c : FC} {kt : Bool} {k n : Nat} {f : Addr} {fd : FuncData} {ps : List Str} {g : DS} {x : Str} {p pos : Pos} {e : Expr} {es : List Expr} {fa : AF} (hk : c.kt = kt) (F : FnOk X.prog X.w X.K X.mg X.base CX0 k f fd ps (spG (gx X kt) n g)) (hsf : Safe g) (hr : Room k X.A) (hg : Gl X x) (hm : X.mg x = some (.ref f)) (hkp : PySem.W.keepIn X.K (.ref f) = true) (hb : Binds X.K fd ps [])
    (ha : AV X c (e :: es) fa) (hdb : (x == ("__debug__" : Str)) = false := by decide) (he : starEach (e :: es) X.env = (false, eval e X.env) :: starEach es X.env := by rfl) (hpl : (backTo pos (starEach es X.env)).any (·.1) = false := by rfl) :
    EV X c (.Call (.Name x p) (e :: es) [] pos) (eCall n g fa []) := by
  subst hk
  exact ev_call F hsf hr hg hm hkp hb ha hdb he hpl
theorem hu65 {A : Around} {k : Nat} (hr : Room k A) : A.units + 65 < cLine := by have := hr.un; omega
theorem hu64 {A : Around} {k : Nat} (hr : Room k A) : A.units + 64 < cLine := by have := hr.un; omega
theorem hu1 {A : Around} {k : Nat} (hr : Room k A) : A.units + 1 < cLine := by have := hr.un; omega
theorem hu0 {A : Around} {k : Nat} (hr : Room k A) : A.units < cLine := by have := hr.un; omega
end Fx

set_option Elab.async false
set_option linter.all false
set_option maxRecDepth 100000
set_option maxHeartbeats 1000000
/-! Fx part 16: what a reading comes to. -/
namespace Fx
open PySem L2
section
variable {α β : Type}
/-- the reading gives a value that P holds of -/
def Ok (r : Option (Res α)) (P : α → Store → Prop) : Prop := ∃ a L, r = some (.ok a L) ∧ P a L
theorem Ok.imp {r : Option (Res α)} {P Q : α → Store → Prop} (h : Ok r P) (i : ∀ a L, P a L → Q a L) : Ok r Q := by
  obtain ⟨a, L, e, p⟩ := h
  exact ⟨a, L, e, i a L p⟩
theorem Ok.of {r : Option (Res α)} {a : α} {L : Store} {P : α → Store → Prop} (e : r = some (.ok a L)) (h : P a L) : Ok r P := ⟨a, L, e, h⟩
theorem Ok.eq {r : Option (Res α)} {a : α} {L : Store} (h : Ok r fun b M => b = a ∧ M = L) : r = some (.ok a L) := by
  obtain ⟨b, M, e, rfl, rfl⟩ := h
  exact e
@[simp] theorem Ok_ok {a : α} {L : Store} {P : α → Store → Prop} : Ok (some (.ok a L)) P ↔ P a L := by
  constructor
  · rintro ⟨b, M, e, h⟩
    cases e
    exact h
  · exact fun h => ⟨a, L, rfl, h⟩
@[simp] theorem Ok_none {P : α → Store → Prop} : Ok (none : Option (Res α)) P ↔ False := by
  constructor
  · rintro ⟨b, M, e, h⟩
    cases e
  · exact False.elim
@[simp] theorem Ok_err {x : PX} {L : Store} {P : α → Store → Prop} : Ok (some (.err x L) : Option (Res α)) P ↔ False := by
  constructor
  · rintro ⟨b, M, e, h⟩
    cases e
  · exact False.elim
@[simp] theorem Ok_bnd {r : Option (Res α)} {k : α → Store → Option (Res β)} {P : β → Store → Prop} : Ok (bnd r k) P ↔ Ok r fun a L => Ok (k a L) P := by
  constructor
  · rintro ⟨b, M, e, h⟩
    cases r with
    | none => cases e
    | some z =>
      cases z with
      | ok a L => exact ⟨a, L, rfl, b, M, e, h⟩
      | err x L => cases e
  · rintro ⟨a, L, rfl, h⟩
    exact h
@[simp] theorem Ok_bndN {r : Option (Res α)} {k : α → Store → Option (Res β)} {P : β → Store → Prop} : Ok (bndN r k) P ↔ Ok r fun a L => Ok (k a L) P := by
  constructor
  · rintro ⟨b, M, e, h⟩
    cases r with
    | none => cases e
    | some z =>
      cases z with
      | ok a L => exact ⟨a, L, rfl, b, M, e, h⟩
      | err x L => cases e
  · rintro ⟨a, L, rfl, h⟩
    exact h
@[simp] theorem Ok_ret {o : Option α} {L : Store} {P : α → Store → Prop} : Ok (ret o L) P ↔ ∃ a, o = some a ∧ P a L := by
  cases o with
  | none => simp [ret]
  | some a => simp [ret]
@[simp] theorem Ok_map {o : Option α} {f : α → β} {L : Store} {P : β → Store → Prop} : Ok (o.map fun a => Res.ok (f a) L) P ↔ ∃ a, o = some a ∧ P (f a) L := by
  cases o with
  | none => simp
  | some a => simp
@[simp] theorem Ok_ite {c : Prop} [Decidable c] {a b : Option (Res α)} {P : α → Store → Prop} : Ok (if c then a else b) P ↔ if c then Ok a P else Ok b P := by
  by_cases h : c <;> simp [h]
end
section
variable {s : Slots} {L : Store}
@[simp] theorem eC_at {v : PV} : eC v s L = some (.ok v L) := rfl
@[simp] theorem eVar_at {i : Nat} : eVar i s L = match s[i]? with
  | some (.val v) => some (.ok v L)
  | _ => none := rfl
@[simp] theorem hE_at {f : EF} : hE f s L = bnd (f s L) fun v L1 => some (.ok (.v v) L1) := rfl
@[simp] theorem hOwn_at {i : Nat} : hOwn i s L = match s[i]? with
  | some (.own c) => some (.ok (.o c) L)
  | _ => none := rfl
@[simp] theorem eOp_at {h : PV → PV → Option PV} {f g : EF} : eOp h f g s L = bnd (f s L) fun x L1 => bnd (g s L1) fun y L2 => ret (h x y) L2 := rfl
@[simp] theorem eOpH_at {h : Store → Hd → PV → Option PV} {f : FF Hd} {g : EF} : eOpH h f g s L = bnd (f s L) fun x L1 => bnd (g s L1) fun y L2 => ret (h L2 x y) L2 := rfl
@[simp] theorem eOpH'_at {h : Store → PV → Hd → Option PV} {f : EF} {g : FF Hd} : eOpH' h f g s L = bnd (f s L) fun x L1 => bnd (g s L1) fun y L2 => ret (h L2 x y) L2 := rfl
@[simp] theorem bB_at {f : EF} : bB f s L = bnd (f s L) fun v L1 => match v with
  | .bl k => some (.ok k L1)
  | _ => none := rfl
@[simp] theorem eChain_at {h h' : PV → PV → Option PV} {f g k : EF} : eChain h h' f g k s L = bnd (f s L) fun x L1 => bnd (g s L1) fun y L2 => match h x y with
  | some (.bl true) => bnd (k s L2) fun z L3 => ret (h' y z) L3
  | some (.bl false) => some (.ok (.bl false) L2)
  | _ => none := rfl
@[simp] theorem bAnd_at {p q : BF} : bAnd p q s L = bnd (p s L) fun k L1 => if k = true then q s L1 else some (.ok false L1) := rfl
@[simp] theorem bOr_at {p q : BF} : bOr p q s L = bnd (p s L) fun k L1 => if k = true then some (.ok true L1) else q s L1 := rfl
@[simp] theorem bNot_at {p : BF} : bNot p s L = bnd (p s L) fun k L1 => some (.ok (!k) L1) := rfl
@[simp] theorem eAnd_at {f g : EF} : eAnd f g s L = bnd (f s L) fun v L1 => match v with
  | .bl true => g s L1
  | .bl false => some (.ok (.bl false) L1)
  | _ => none := rfl
@[simp] theorem eOr_at {f g : EF} : eOr f g s L = bnd (f s L) fun v L1 => match v with
  | .bl true => some (.ok (.bl true) L1)
  | .bl false => g s L1
  | _ => none := rfl
@[simp] theorem eNot_at {f : EF} : eNot f s L = bnd (f s L) fun v L1 => match v with
  | .bl k => some (.ok (.bl (!k)) L1)
  | _ => none := rfl
@[simp] theorem eIf_at {p : BF} {f g : EF} : eIf p f g s L = bnd (p s L) fun k L1 => if k = true then f s L1 else g s L1 := rfl
@[simp] theorem aNil_at : aNil s L = some (.ok [] L) := rfl
@[simp] theorem aCons_at {f : EF} {r : AF} : aCons f r s L = bnd (f s L) fun x L1 => bnd (r s L1) fun xs L2 => some (.ok (x :: xs) L2) := rfl
@[simp] theorem eTup_at {fa : AF} : eTup fa s L = bnd (fa s L) fun xs L1 => if xs.length ≤ sizeLine then some (.ok (.tup xs) L1) else none := rfl
@[simp] theorem nLst_at {fa : AF} : nLst fa s L = bnd (fa s L) fun xs L1 => if xs.length ≤ sizeLine then some (.ok (.lst xs) L1) else none := rfl
@[simp] theorem nDk_at : nDk s L = some (.ok (.dk []) L) := rfl
@[simp] theorem nDt_at : nDt s L = some (.ok (.dt []) L) := rfl
@[simp] theorem eFrz_at {fc : CF} : eFrz fc s L = bnd (fc s L) fun w L1 => ret (frzC w) L1 := rfl
@[simp] theorem eNew_at {fc : CF} : eNew fc s L = bnd (fc s L) fun w L1 => some (.ok (.loc L1.length) (L1 ++ [w])) := rfl
@[simp] theorem eNeg_at {f : EF} : eNeg f s L = bnd (f s L) fun v L1 => match v with
  | .int i => some (.ok (.int (-i)) L1)
  | _ => none := rfl
@[simp] theorem oNo_at : oNo s L = some (.ok none L) := rfl
@[simp] theorem oE_at {g : EF} : oE g s L = bnd (g s L) fun v L1 => match v with
  | .int i => some (.ok (some i) L1)
  | _ => none := rfl
@[simp] theorem eSlice_at {f : FF Hd} {lo hi : OF} : eSlice f lo hi s L = bnd (f s L) fun x L1 => bnd (lo s L1) fun l L2 => bnd (hi s L2) fun h L3 => ret (hSlice L3 x l h) L3 := rfl
@[simp] theorem eCall1_at {h : Store → Hd → Option PV} {f : FF Hd} : eCall1 h f s L = bnd (f s L) fun x L1 => ret (h L1 x) L1 := rfl
@[simp] theorem nCall1_at {h : Store → Hd → Option Cell} {f : FF Hd} : nCall1 h f s L = bnd (f s L) fun x L1 => ret (h L1 x) L1 := rfl
@[simp] theorem eIsi_at {T : Ty5} {f : FF Hd} : eIsi T f s L = bnd (f s L) fun x L1 => ret ((isi T x).map PV.bl) L1 := rfl
@[simp] theorem eIsi2_at {T U : Ty5} {f : FF Hd} : eIsi2 T U f s L = bnd (f s L) fun x L1 => ret ((isi T x).bind fun b => (isi U x).map fun d => PV.bl (b || d)) L1 := rfl
@[simp] theorem eGet_at {kt : Bool} {f : FF Hd} {g g' : EF} : eGet kt f g g' s L = bnd (f s L) fun x L1 => if isDv (view L1 x) = true then bnd (g s L1) fun y L2 => bnd (g' s L2) fun z L3 => match view L3 x with
  | some w => (dLook' kt w y).map fun o => .ok (o.getD z) L3
  | none => none else none := rfl
@[simp] theorem nAdd_at {f g : EF} : nAdd f g s L = bnd (f s L) fun x L1 => bnd (g s L1) fun y L2 => match x, y with
  | .lst a, .lst b => if a.length + b.length ≤ sizeLine then some (.ok (.lst (a ++ b)) L2) else none
  | _, _ => none := rfl
@[simp] theorem eCall_at {n : Nat} {g : DS} {fa : AF} {ds : List PV} : eCall n g fa ds s L = bnd (fa s L) fun args L1 => if (args ++ ds).length = n then g (args ++ ds) L1 else none := rfl
@[simp] theorem iE_at {g : EF} : iE g s L = bnd (g s L) fun v L1 => ret (itemsOf v) L1 := rfl
@[simp] theorem iRg1_at {g : EF} : iRg1 g s L = bnd (g s L) fun v L1 => match v with
  | .int j => if -(2 ^ 62) ≤ j ∧ j < 2 ^ 62 then some (.ok (rgItems 0 j.toNat) L1) else none
  | _ => none := rfl
@[simp] theorem iRg2_at {g g2 : EF} : iRg2 g g2 s L = bnd (g s L) fun v L1 => bnd (g2 s L1) fun w L2 => match v, w with
  | .int i, .int j => if (-(2 ^ 62) ≤ i ∧ i < 2 ^ 62) ∧ -(2 ^ 62) ≤ j ∧ j < 2 ^ 62 then some (.ok (rgItems i (j - i).toNat) L2) else none
  | _, _ => none := rfl
@[simp] theorem iZp_at {g g2 : EF} : iZp g g2 s L = bnd (g s L) fun v L1 => bnd (g2 s L1) fun w L2 => ret (hZip v w) L2 := rfl
@[simp] theorem nComp_at {fi : AF} {t : TGF} {p : BF} {g : EF} {vs : List Nat} : nComp fi t p g vs s L = bnd (fi s L) fun xs L1 => cLoop t p g (wipeS s vs) xs [] L1 := rfl
@[simp] theorem pYes_at : pYes s L = some (.ok true L) := rfl
@[simp] theorem gNm_at {i : Nat} {x : PV} : gNm i x s = some (s.set i (.val x)) := rfl
@[simp] theorem gTp_at {u : List PV → Slots → Option Slots} {xs : List PV} : gTp u (.tup xs) s = u xs s := rfl
@[simp] theorem gCns_at {t : TGF} {u : List PV → Slots → Option Slots} {x : PV} {r : List PV} : gCns t u (x :: r) s = (t x s).bind (u r) := rfl
@[simp] theorem gNls_at : gNls [] s = some s := rfl
@[simp] theorem wipeS_nil : wipeS s [] = s := rfl
@[simp] theorem wipeS_cons {v : Nat} {vs : List Nat} : wipeS s (v :: vs) = (wipeS s vs).set v .no := rfl
/-! statements -/
@[simp] theorem sNx_at : sNx s L = some (.ok (.nx s) L) := rfl
@[simp] theorem sPass_at : sPass s L = some (.ok (.nx s) L) := rfl
@[simp] theorem sCt_at : sCt s L = some (.ok (.ct s) L) := rfl
@[simp] theorem sRet_at {f : EF} : sRet f s L = bnd (f s L) fun v L1 => some (.ok (.rt v) L1) := rfl
@[simp] theorem sRetN_at : sRetN s L = some (.ok (.rt .non) L) := rfl
@[simp] theorem sIf_at {p : BF} {g h : SF} : sIf p g h s L = bnd (p s L) fun k L1 => if k = true then g s L1 else h s L1 := rfl
@[simp] theorem sDrop_at {f : EF} : sDrop f s L = bnd (f s L) fun _ L1 => some (.ok (.nx s) L1) := rfl
@[simp] theorem sSet_at {i : Nat} {f : EF} : sSet i f s L = bnd (f s L) fun v L1 => some (.ok (.nx (s.set i (.val v))) L1) := rfl
@[simp] theorem sOwn_at {i : Nat} {fc : CF} : sOwn i fc s L = bnd (fc s L) fun w L1 => some (.ok (.nx (s.set i (.own w))) L1) := rfl
@[simp] theorem sAsg_at {f : EF} {t : TGF} : sAsg f t s L = bnd (f s L) fun v L1 => (t v s).map fun s1 => .ok (.nx s1) L1 := rfl
@[simp] theorem sPar_at {i j : Nat} {f g : EF} : sPar i j f g s L = bnd (f s L) fun v L1 => bnd (g s L1) fun w L2 => some (.ok (.nx ((s.set i (.val v)).set j (.val w))) L2) := rfl
@[simp] theorem sOwnM_at {m : Cell → List PV → Option Cell} {i : Nat} {fa : AF} : sOwnM m i fa s L = match s[i]? with
  | some (.own c) => if isLst c = true then bnd (fa s L) fun xs L1 => (m c xs).map fun c' => .ok (.nx (s.set i (.own c'))) L1 else none
  | _ => none := rfl
@[simp] theorem sPutO_at {kt : Bool} {i : Nat} {fk fv : EF} : sPutO kt i fk fv s L = bnd (fv s L) fun v L1 => match s[i]? with
  | some (.own c) => bnd (fk s L1) fun k L2 => (setC kt c k v).map fun c' => .ok (.nx (s.set i (.own c'))) L2
  | _ => none := rfl
@[simp] theorem sPutL_at {kt : Bool} {fo fk fv : EF} : sPutL kt fo fk fv s L = bnd (fv s L) fun v L1 => bnd (fo s L1) fun o L2 => bnd (fk s L2) fun k L3 => match o with
  | .loc n => match L3[n]? with
    | some c => (setC kt c k v).map fun c' => .ok (.nx s) (L3.set n c')
    | none => none
  | _ => none := rfl
@[simp] theorem sFrz_at {i : Nat} {h : SF} : sFrz i h s L = match s[i]? with
  | some (.own c) => match frzC c with
    | some x => h (s.set i (.val x)) L
    | none => none
  | _ => h s L := rfl
@[simp] theorem sFor_at {fi : AF} {t : TGF} {b : SF} : sFor fi t b s L = bnd (fi s L) fun xs L1 => fLoop t b xs s L1 := rfl
theorem Ok_seq {f g : SF} {P : Flw → Store → Prop} : Ok (sSeq f g s L) P ↔ Ok (f s L) fun w L1 => match w with
  | .nx s1 => Ok (g s1 L1) P
  | w => P w L1 := by
  unfold sSeq
  constructor
  · rintro ⟨b, M, e, h⟩
    match hf : f s L, e with
    | some (.ok (.nx s1) L1), e => exact ⟨_, _, rfl, b, M, e, h⟩
    | some (.ok (.rt v) L1), e => cases e; exact ⟨_, _, rfl, h⟩
    | some (.ok (.bk v) L1), e => cases e; exact ⟨_, _, rfl, h⟩
    | some (.ok (.ct v) L1), e => cases e; exact ⟨_, _, rfl, h⟩
    | some (.err v L1), e => cases e
    | none, e => cases e
  · rintro ⟨w, M, e, h⟩
    rw [e]
    cases w with
    | nx s1 => exact h
    | rt v => exact ⟨_, _, rfl, h⟩
    | bk v => exact ⟨_, _, rfl, h⟩
    | ct v => exact ⟨_, _, rfl, h⟩
section
variable {g : SF} {P : Flw → Store → Prop}
@[simp] theorem Ok_seqSet {i : Nat} {f : EF} : Ok (sSeq (sSet i f) g s L) P ↔ Ok (f s L) fun v L1 => Ok (g (s.set i (.val v)) L1) P := by simp [Ok_seq]
@[simp] theorem Ok_seqOwn {i : Nat} {f : CF} : Ok (sSeq (sOwn i f) g s L) P ↔ Ok (f s L) fun v L1 => Ok (g (s.set i (.own v)) L1) P := by simp [Ok_seq]
@[simp] theorem Ok_seqDrop {f : EF} : Ok (sSeq (sDrop f) g s L) P ↔ Ok (f s L) fun v L1 => Ok (g s L1) P := by simp [Ok_seq]
@[simp] theorem Ok_seqAsg {f : EF} {t : TGF} : Ok (sSeq (sAsg f t) g s L) P ↔ Ok (f s L) fun v L1 => ∃ s1, t v s = some s1 ∧ Ok (g s1 L1) P := by simp [Ok_seq]
@[simp] theorem Ok_seqPar {i j : Nat} {f h : EF} : Ok (sSeq (sPar i j f h) g s L) P ↔ Ok (f s L) fun v L1 => Ok (h s L1) fun w L2 => Ok (g ((s.set i (.val v)).set j (.val w)) L2) P := by simp [Ok_seq]
@[simp] theorem Ok_seqPutL {kt : Bool} {n : Nat} {c : Cell} {fk fv : EF} {i : Nat} (hs : s[i]? = some (.val (.loc n))) : Ok (sSeq (sPutL kt (eVar i) fk fv) g s L) P ↔ Ok (fv s L) fun v L1 => Ok (fk s L1) fun k L3 => ∃ c c', L3[n]? = some c ∧ setC kt c k v = some c' ∧ Ok (g s (L3.set n c')) P := by
  have e : eVar i s = fun L => some (.ok (.loc n) L) := by funext L; simp [hs]
  simp only [Ok_seq, sPutL_at, e, bnd_ok, Ok_bnd]
  constructor
  · rintro ⟨v, L1, h1, k, L3, h2, w, M, h3, h4⟩
    refine ⟨v, L1, h1, k, L3, h2, ?_⟩
    cases hc : L3[n]? with
    | none => rw [hc] at h3; cases h3
    | some c =>
      rw [hc] at h3
      dsimp only at h3
      cases hd : setC kt c k v with
      | none => rw [hd] at h3; cases h3
      | some c' => rw [hd] at h3; cases h3; exact ⟨c, c', hc, hd, h4⟩
  · rintro ⟨v, L1, h1, k, L3, h2, c, c', h3, h4, h5⟩
    refine ⟨v, L1, h1, k, L3, h2, .nx s, _, ?_, h5⟩
    rw [h3]
    dsimp only
    rw [h4]
    rfl
theorem Ok.seq {f : SF} {S : Flw → Store → Prop} (h : Ok (f s L) S) (k : ∀ w L1, S w L1 → match w with
  | .nx s1 => Ok (g s1 L1) P
  | w => P w L1) : Ok (sSeq f g s L) P := Ok_seq.mpr (h.imp k)
/-- a branch ahead of more: S holds where it goes on -/
theorem Ok.seqIf {p : BF} {a b : SF} (S : Slots → Store → Prop) (h : Ok (sIf p a b s L) fun w L1 => match w with
  | .nx s1 => S s1 L1
  | w => P w L1) (k : ∀ s1 L1, S s1 L1 → Ok (g s1 L1) P) : Ok (sSeq (sIf p a b) g s L) P := Ok.seq h fun w L1 q => by
  cases w with
  | nx s1 => exact k s1 L1 q
  | _ => exact q
end
/-! values -/
@[simp] theorem hAdd_i {i j : Int} : hAdd (.int i) (.int j) = some (.int (i + j)) := rfl
@[simp] theorem hAdd_s {x y : Str} : hAdd (.str x) (.str y) = if x.length + y.length ≤ sizeLine then some (.str (x ++ y)) else none := rfl
@[simp] theorem hAdd_t {x y : List PV} : hAdd (.tup x) (.tup y) = if x.length + y.length ≤ sizeLine then some (.tup (x ++ y)) else none := rfl
@[simp] theorem hAdd_l {x y : List PV} : hAdd (.lst x) (.lst y) = if x.length + y.length ≤ sizeLine then some (.lst (x ++ y)) else none := rfl
@[simp] theorem hSub_i {i j : Int} : hSub (.int i) (.int j) = some (.int (i - j)) := rfl
@[simp] theorem hMulI_i {i j : Int} : hMulI (.int i) (.int j) = if i.natAbs.log2 + j.natAbs.log2 < 1000000 then some (.int (i * j)) else none := rfl
@[simp] theorem hMod_i {i j : Int} : hMod (.int i) (.int j) = if 0 < j then some (.int (i % j)) else none := rfl
@[simp] theorem hDiv_i {i j : Int} : hDiv (.int i) (.int j) = if 0 < j ∧ j.natAbs.log2 < 9000 then some (.int (i / j)) else none := rfl
@[simp] theorem hPow_i {i j : Int} : hPow (.int i) (.int j) = if 0 ≤ j ∧ j ≤ 1000000 ∧ i.natAbs < 2 ^ 64 then some (.int (i ^ j.toNat)) else none := rfl
@[simp] theorem hCmp_i {p : Int → Int → Bool} {i j : Int} : hCmp p (.int i) (.int j) = some (.bl (p i j)) := rfl
@[simp] theorem hLt_i {i j : Int} : hLt (.int i) (.int j) = some (.bl (decide (i < j))) := rfl
@[simp] theorem hLt_s {x y : Str} : hLt (.str x) (.str y) = some (.bl (decide (x.cps.toList < y.cps.toList))) := rfl
@[simp] theorem hIs_b {a b : Bool} : hIs (.bl a) (.bl b) = some (.bl (decide (a = b))) := rfl
@[simp] theorem hEq_i {i j : Int} : hEq (.int i) (.int j) = some (.bl (i == j)) := rfl
@[simp] theorem hNe_i {i j : Int} : hNe (.int i) (.int j) = some (.bl (!(i == j))) := rfl
@[simp] theorem hEq_b {i j : Bool} : hEq (.bl i) (.bl j) = some (.bl (i == j)) := rfl
@[simp] theorem hNe_b {i j : Bool} : hNe (.bl i) (.bl j) = some (.bl (!(i == j))) := rfl
@[simp] theorem view_t {xs : List PV} : view L (.v (.tup xs)) = some (.tup xs) := rfl
@[simp] theorem view_l {xs : List PV} : view L (.v (.lst xs)) = some (.lst xs) := rfl
@[simp] theorem view_s {xs : Str} : view L (.v (.str xs)) = some (.str xs) := rfl
@[simp] theorem view_ol {xs : List PV} : view L (.o (.lst xs)) = some (.lst xs) := rfl
@[simp] theorem view_odk {xs : List (Key × PV)} : view L (.o (.dk xs)) = some (.dk xs) := rfl
@[simp] theorem view_odt {xs : List (List Key × PV)} : view L (.o (.dt xs)) = some (.dt xs) := rfl
@[simp] theorem view_loc {n : Nat} : view L (.v (.loc n)) = match L[n]? with
  | some c => cellV c
  | none => none := rfl
@[simp] theorem cellV_l {xs : List PV} : cellV (.lst xs) = some (.lst xs) := rfl
@[simp] theorem frzC_l {xs : List PV} : frzC (.lst xs) = some (.lst xs) := rfl
@[simp] theorem frzC_dk {kvs : List (Key × PV)} : frzC (.dk kvs) = some (.dk (kvs.map (·.1)) (kvs.map (·.2))) := rfl
@[simp] theorem hLen_t {xs : List PV} : hLen L (.v (.tup xs)) = some (.int xs.length) := rfl
@[simp] theorem hLen_l {xs : List PV} : hLen L (.v (.lst xs)) = some (.int xs.length) := rfl
@[simp] theorem hLen_o {xs : List PV} : hLen L (.o (.lst xs)) = some (.int xs.length) := rfl
@[simp] theorem hLen_s {z : Str} : hLen L (.v (.str z)) = if z.length ≤ sizeLine then some (.int z.length) else none := rfl
@[simp] theorem hIx_t {kt : Bool} {xs : List PV} {i : Int} : hIx kt L (.v (.tup xs)) (.int i) = atI xs i := rfl
@[simp] theorem hIx_l {kt : Bool} {xs : List PV} {i : Int} : hIx kt L (.v (.lst xs)) (.int i) = atI xs i := rfl
@[simp] theorem hIx_o {kt : Bool} {xs : List PV} {i : Int} : hIx kt L (.o (.lst xs)) (.int i) = atI xs i := rfl
@[simp] theorem isi_v {T : Ty5} {x : PV} : isi T (.v x) = if okP x = true then some (isP T x) else none := rfl
@[simp] theorem itemsOf_l {xs : List PV} : itemsOf (.lst xs) = some xs := rfl
@[simp] theorem itemsOf_t {xs : List PV} : itemsOf (.tup xs) = some xs := rfl
@[simp] theorem hTuple_t {xs : List PV} : hTuple L (.v (.tup xs)) = some (.tup xs) := rfl
@[simp] theorem hTuple_l {xs : List PV} : hTuple L (.v (.lst xs)) = some (.tup xs) := rfl
@[simp] theorem hTuple_o {xs : List PV} : hTuple L (.o (.lst xs)) = some (.tup xs) := rfl
@[simp] theorem nList_t {xs : List PV} : nList L (.v (.tup xs)) = some (.lst xs) := rfl
@[simp] theorem nList_l {xs : List PV} : nList L (.v (.lst xs)) = some (.lst xs) := rfl
@[simp] theorem nList_s {ns : List Int} : nList L (.v (.scr ns)) = some (.lst (ns.map PV.int)) := rfl
@[simp] theorem hAbs_i {i : Int} : hAbs L (.v (.int i)) = some (.int (if i < 0 then -i else i)) := rfl
@[simp] theorem hMax2_i {i j : Int} : hMax2 (.int i) (.int j) = some (.int (if j > i then j else i)) := rfl
@[simp] theorem hMin2_i {i j : Int} : hMin2 (.int i) (.int j) = some (.int (if j < i then j else i)) := rfl
@[simp] theorem mAppend_l {xs : List PV} {x : PV} : mAppend (.lst xs) [x] = if xs.length < sizeLine then some (.lst (xs ++ [x])) else none := rfl
@[simp] theorem isLst_l {xs : List PV} : isLst (.lst xs) = true := rfl
end
theorem atI_nat1 {xs : List PV} {i : Nat} {x : PV} (h : xs[i]? = some x) : atI xs (i : Int) = some x := by
  obtain ⟨hi, e⟩ := List.getElem?_eq_some_iff.mp h
  unfold atI ixN
  simp [hi, e]
@[simp] theorem atI_0 {x : PV} {r : List PV} : atI (x :: r) 0 = some x := atI_nat1 (i := 0) rfl
@[simp] theorem atI_1 {x y : PV} {r : List PV} : atI (x :: y :: r) 1 = some y := atI_nat1 (i := 1) rfl
@[simp] theorem atI_2 {x y z : PV} {r : List PV} : atI (x :: y :: z :: r) 2 = some z := atI_nat1 (i := 2) rfl
theorem ok_def {n : Nat} {b : SF} {args : List PV} {L : Store} {P : PV → Store → Prop} : Ok (runDef0 n b args L) P ↔ Ok (b (args.map SV.val ++ List.replicate (n - args.length) SV.no) L) fun w L' => match w with
  | .rt v => P v L'
  | .nx _ => P .non L'
  | _ => False := by
  unfold runDef0 runDef
  constructor
  · rintro ⟨v, M, e, h⟩
    match hf : b (args.map SV.val ++ List.replicate (n - args.length) SV.no) L, e with
    | some (.ok (.nx s1) L1), e => cases e; exact ⟨_, _, rfl, h⟩
    | some (.ok (.rt v) L1), e => cases e; exact ⟨_, _, rfl, h⟩
    | some (.ok (.bk v) L1), e => cases e
    | some (.ok (.ct v) L1), e => cases e
    | some (.err v L1), e => cases e
    | none, e => cases e
  · rintro ⟨w, M, e, h⟩
    rw [e]
    cases w with
    | nx s1 => exact ⟨_, _, rfl, h⟩
    | rt v => exact ⟨_, _, rfl, h⟩
    | bk v => exact h.elim
    | ct v => exact h.elim
theorem Ok_wLoop0 {p : BF} {b : SF} {n : Nat} {s : Slots} {L : Store} (h : p s L = some (.ok false L)) : wLoop p b (n + 1) s L = some (.ok (.nx s) L) := by
  unfold wLoop
  rw [h]
theorem Ok_wLoop1 {p : BF} {b : SF} {n : Nat} {s s2 : Slots} {L L2 : Store} (h : p s L = some (.ok true L)) (h2 : b s L = some (.ok (.nx s2) L2)) : wLoop p b (n + 1) s L = wLoop p b n s2 L2 := by
  show (match p s L with
    | some (.ok true L1) => match b s L1 with
      | some (.ok (.nx s2) L2) => wLoop p b n s2 L2
      | some (.ok (.ct s2) L2) => wLoop p b n s2 L2
      | some (.ok (.bk s2) L2) => some (.ok (.nx s2) L2)
      | z => z
    | some (.ok false L1) => some (.ok (.nx s) L1)
    | some (.err x L1) => some (.err x L1)
    | none => none) = _
  rw [h]
  dsimp only
  rw [h2]
/-- a loop that looks at each item and ends with v at the first that fails -/
theorem fLoop_chk {t : TGF} {b : SF} {L : Store} {q : PV → Bool} {v : PV} {S : Slots → Prop} : ∀ (xs : List PV) (s : Slots), S s → (∀ x ∈ xs, ∀ s, S s → ∃ s1 s2, t x s = some s1 ∧ S s2 ∧ b s1 L = some (.ok (if q x = true then .nx s2 else .rt v) L)) →
    ∃ s', S s' ∧ fLoop t b xs s L = some (.ok (if xs.all q = true then .nx s' else .rt v) L)
  | [], s, h, _ => ⟨s, h, rfl⟩
  | x :: r, s, h, hb => by
    obtain ⟨s1, s2, h1, h2, h3⟩ := hb x (by simp) s h
    unfold fLoop
    rw [h1]
    dsimp only
    rw [h3]
    cases hq : q x with
    | false =>
      rw [if_neg Bool.false_ne_true]
      exact ⟨s2, h2, by simp [hq]⟩
    | true =>
      rw [if_pos rfl]
      obtain ⟨s', k1, k2⟩ := fLoop_chk r s2 h2 fun y hy => hb y (List.mem_cons_of_mem x hy)
      exact ⟨s', k1, by simpa [hq] using k2⟩
@[simp] theorem blsOf_map {α : Type} {f : α → Bool} : ∀ xs : List α, blsOf (xs.map fun x => .bl (f x)) = some (xs.map f)
  | [] => rfl
  | x :: xs => by
    show (blsOf (xs.map fun x => .bl (f x))).map (f x :: ·) = _
    rw [blsOf_map xs]
    rfl
theorem hAll_map {α : Type} {f : α → Bool} {xs : List α} {L : Store} : hAll L (.v (.lst (xs.map fun x => .bl (f x)))) = some (.bl (xs.all f)) := by
  show (blsOf (xs.map fun x => .bl (f x))).map (fun bs => PV.bl (bs.all _root_.id)) = _
  rw [blsOf_map]
  simp [Function.comp_def]
/-- the turns of while loops: more than any number here -/
def fuelN : Nat := 2 ^ 8000
/-- a list told to be empty -/
theorem hEq_nil {xs : List PV} (h : dOks 63 xs = true) : hEq (.lst xs) (.lst []) = some (.bl xs.isEmpty) := by
  unfold hEq
  have e : dOk 64 (.lst xs) = true ∧ dOk 64 (.lst []) = true := ⟨h, rfl⟩
  rw [if_pos e]
  cases xs <;> rfl
theorem dOks_of {n : Nat} : ∀ {xs : List PV}, (∀ x ∈ xs, dOk n x = true) → dOks n xs = true
  | [], _ => rfl
  | x :: r, h => by
    have h1 := h x (by simp)
    have h2 := dOks_of (xs := r) fun y hy => h y (List.mem_cons_of_mem x hy)
    simp [dOks, h1, h2]
/-- a loop that keeps I of what is left -/
theorem ok_loop {t : TGF} {b : SF} {P : Flw → Store → Prop} (I : List PV → Slots → Store → Prop)
    (step : ∀ x r s L, I (x :: r) s L → ∃ s1, t x s = some s1 ∧ Ok (b s1 L) fun w L2 => match w with
      | .nx s2 => I r s2 L2
      | .ct s2 => I r s2 L2
      | .bk s2 => P (.nx s2) L2
      | .rt v => P (.rt v) L2)
    (done : ∀ s L, I [] s L → P (.nx s) L) : ∀ xs s L, I xs s L → Ok (fLoop t b xs s L) P
  | [], s, L, h => by
    show Ok (some (.ok (.nx s) L)) P
    exact Ok_ok.mpr (done s L h)
  | x :: r, s, L, h => by
    obtain ⟨s1, h1, w, L2, h2, h3⟩ := step x r s L h
    unfold fLoop
    rw [h1]
    dsimp only
    rw [h2]
    cases w with
    | nx s2 => exact ok_loop I step done r s2 L2 h3
    | ct s2 => exact ok_loop I step done r s2 L2 h3
    | bk s2 => exact Ok_ok.mpr h3
    | rt v => exact Ok_ok.mpr h3
/-- a comprehension whose parts are plain functions -/
theorem cLoop_pure {t : TGF} {p : BF} {g : EF} {s : Slots} {L : Store} {q : PV → Bool} {e : PV → PV} : ∀ (xs acc : List PV), (∀ x ∈ xs, ∃ s1, t x s = some s1 ∧ p s1 L = some (.ok (q x) L) ∧ (q x = true → g s1 L = some (.ok (e x) L))) → acc.length + xs.length ≤ sizeLine →
    cLoop t p g s xs acc L = some (.ok (.lst (acc ++ (xs.filter q).map e)) L)
  | [], acc, _, _ => by simp [cLoop]
  | x :: r, acc, h, hz => by
    obtain ⟨s1, h1, h2, h3⟩ := h x (by simp)
    have hr := fun y hy => h y (List.mem_cons_of_mem x hy)
    have hz' : acc.length + (r.length + 1) ≤ sizeLine := by simpa using hz
    unfold cLoop
    rw [h1]
    dsimp only
    rw [h2, bndN_ok]
    cases hq : q x with
    | false =>
      rw [if_neg Bool.false_ne_true, cLoop_pure r acc hr (by omega)]
      simp [hq]
    | true =>
      rw [if_pos rfl, h3 hq, bndN_ok, if_pos (by omega), cLoop_pure r (acc ++ [e x]) hr (by simp; omega)]
      simp [hq]
/-- a comprehension, with an invariant -/
theorem ok_comp {t : TGF} {p : BF} {g : EF} {s : Slots} {P : Cell → Store → Prop} (I : List PV → List PV → Store → Prop)
    (step : ∀ x r acc L, I (x :: r) acc L → ∃ s1, t x s = some s1 ∧ Ok (p s1 L) fun b L1 => if b = true then Ok (g s1 L1) fun y L2 => acc.length < sizeLine ∧ I r (acc ++ [y]) L2 else I r acc L1)
    (done : ∀ acc L, I [] acc L → P (.lst acc) L) : ∀ xs acc L, I xs acc L → Ok (cLoop t p g s xs acc L) P
  | [], acc, L, h => by
    show Ok (some (.ok (.lst acc) L)) P
    exact Ok_ok.mpr (done acc L h)
  | x :: r, acc, L, h => by
    obtain ⟨s1, h1, b, L1, h2, h3⟩ := step x r acc L h
    unfold cLoop
    rw [h1]
    dsimp only
    rw [h2, bndN_ok]
    cases b with
    | false =>
      rw [if_neg Bool.false_ne_true] at h3
      rw [if_neg Bool.false_ne_true]
      exact ok_comp I step done r acc L1 h3
    | true =>
      rw [if_pos rfl] at h3
      obtain ⟨y, L2, h4, h5, h6⟩ := h3
      rw [if_pos rfl, h4, bndN_ok, if_pos h5]
      exact ok_comp I step done r _ L2 h6
end Fx

set_option Elab.async false
set_option linter.all false
set_option maxRecDepth 100000
set_option maxHeartbeats 1000000
/-! Fx part 17: more of what readings come to. -/
namespace Fx
open PySem L2
theorem cLoop_src {α : Type} {t : TGF} {p : BF} {g : EF} {s : Slots} {L : Store} {f : α → PV} {q : α → Bool} {e : α → PV} : ∀ (xs : List α) (acc : List PV), (∀ x ∈ xs, ∃ s1, t (f x) s = some s1 ∧ p s1 L = some (.ok (q x) L) ∧ (q x = true → g s1 L = some (.ok (e x) L))) → acc.length + xs.length ≤ sizeLine →
    cLoop t p g s (xs.map f) acc L = some (.ok (.lst (acc ++ (xs.filter q).map e)) L)
  | [], acc, _, _ => by simp [cLoop]
  | x :: r, acc, h, hz => by
    obtain ⟨s1, h1, h2, h3⟩ := h x (by simp)
    have hr := fun y hy => h y (List.mem_cons_of_mem x hy)
    have hz' : acc.length + (r.length + 1) ≤ sizeLine := by simpa using hz
    rw [List.map_cons]
    unfold cLoop
    rw [h1]
    dsimp only
    rw [h2, bndN_ok]
    cases hq : q x with
    | false =>
      rw [if_neg Bool.false_ne_true, cLoop_src r acc hr (by omega)]
      simp [hq]
    | true =>
      rw [if_pos rfl, h3 hq, bndN_ok, if_pos (by omega), cLoop_src r (acc ++ [e x]) hr (by simp; omega)]
      simp [hq]
theorem comp_src {α : Type} {t : TGF} {p : BF} {g : EF} {s : Slots} {L : Store} {f : α → PV} (q : α → Bool) (e : α → PV) {xs : List α} (h : ∀ x ∈ xs, ∃ s1, t (f x) s = some s1 ∧ p s1 L = some (.ok (q x) L) ∧ (q x = true → g s1 L = some (.ok (e x) L))) (hz : xs.length ≤ sizeLine) :
    cLoop t p g s (xs.map f) [] L = some (.ok (.lst ((xs.filter q).map e)) L) := by
  rw [cLoop_src xs [] h (by simpa using hz), List.nil_append]
theorem comp_srcY {α : Type} {t : TGF} {g : EF} {s : Slots} {L : Store} {f : α → PV} (e : α → PV) {xs : List α} (h : ∀ x ∈ xs, ∃ s1, t (f x) s = some s1 ∧ g s1 L = some (.ok (e x) L)) (hz : xs.length ≤ sizeLine) :
    cLoop t pYes g s (xs.map f) [] L = some (.ok (.lst (xs.map e)) L) := by
  have := comp_src (t := t) (p := pYes) (g := g) (s := s) (L := L) (f := f) (fun _ => true) e (xs := xs) (fun x hx => by obtain ⟨s1, h1, h2⟩ := h x hx; exact ⟨s1, h1, rfl, fun _ => h2⟩) hz
  rw [this, List.filter_eq_self.mpr fun _ _ => rfl]
theorem comp_pv {t : TGF} {p : BF} {g : EF} {s : Slots} {L : Store} (q : PV → Bool) (e : PV → PV) {xs : List PV} (h : ∀ x ∈ xs, ∃ s1, t x s = some s1 ∧ p s1 L = some (.ok (q x) L) ∧ (q x = true → g s1 L = some (.ok (e x) L))) (hz : xs.length ≤ sizeLine) :
    cLoop t p g s xs [] L = some (.ok (.lst ((xs.filter q).map e)) L) := by
  have := comp_src (f := fun x => x) q e h hz
  rwa [List.map_id'] at this
theorem comp_pvY {t : TGF} {g : EF} {s : Slots} {L : Store} (e : PV → PV) {xs : List PV} (h : ∀ x ∈ xs, ∃ s1, t x s = some s1 ∧ g s1 L = some (.ok (e x) L)) (hz : xs.length ≤ sizeLine) :
    cLoop t pYes g s xs [] L = some (.ok (.lst (xs.map e)) L) := by
  have := comp_srcY (f := fun x => x) e h hz
  rwa [List.map_id'] at this
end Fx

set_option Elab.async false
set_option linter.all false
set_option maxRecDepth 100000
set_option maxHeartbeats 1000000
/-! Fx part 18: dicts with texts for keys. -/
namespace Fx
open PySem L2
theorem ix_mem {xs : List PV} {i : Int} (h0 : 0 ≤ i) (h1 : i < xs.length) : ∃ x ∈ xs, atI xs i = some x := by
  obtain ⟨k, rfl⟩ := Int.eq_ofNat_of_zero_le h0
  have hk : k < xs.length := by omega
  exact ⟨xs[k], List.getElem_mem hk, atI_nat1 (by simp [hk])⟩
section
variable {α : Type} {f : α → PV} {Q : Str → α → Prop} {n : Nat} {c : Cell}
def kvP (f : α → PV) (ms : List (Str × α)) : List (Key × PV) := ms.map fun r => (.inr r.1, f r.2)
def SD (f : α → PV) (Q : Str → α → Prop) (n : Nat) (c : Cell) : Prop := ∃ ms : List (Str × α), c = .dk (kvP f ms) ∧ (ms.map (·.1)).Nodup ∧ ms.length ≤ n ∧ ∀ r ∈ ms, Q r.1 r.2
theorem SD.nil : SD f Q 0 (.dk []) := ⟨[], rfl, by simp, by simp, by simp⟩
theorem SD.mono {m : Nat} (h : SD f Q n c) (hm : n ≤ m) : SD f Q m c := by
  obtain ⟨ms, h1, h2, h3, h4⟩ := h
  exact ⟨ms, h1, h2, Nat.le_trans h3 hm, h4⟩
def putA (ms : List (Str × α)) (k : Str) (a : α) : List (Str × α) := if (ms.any fun r => decide (r.1 = k)) = true then ms.map fun r => if r.1 = k then (r.1, a) else r else ms ++ [(k, a)]
theorem kvP_put (ms : List (Str × α)) (k : Str) (a : α) : put (kvP f ms) (.inr k) (f a) = kvP f (putA ms k a) := by
  unfold put putA kvP
  have e : ((ms.map fun r => ((.inr r.1 : Key), f r.2)).any fun kv => decide (kv.1 = (.inr k : Key))) = ms.any fun r => decide (r.1 = k) := by
    rw [List.any_map]
    congr 1
    funext r
    simp
  rw [e]
  split
  · rw [List.map_map, List.map_map]
    refine List.map_congr_left fun r hr => ?_
    by_cases h : r.1 = k
    · simp [h]
    · have h' : ¬ ((.inr r.1 : Key) = .inr k) := fun q => h (Sum.inr.inj q)
      simp [h, h']
  · simp
theorem putA_keys (ms : List (Str × α)) (k : Str) (a : α) : (putA ms k a).map (·.1) = if k ∈ ms.map (·.1) then ms.map (·.1) else ms.map (·.1) ++ [k] := by
  unfold putA
  by_cases h : k ∈ ms.map (·.1)
  · have : (ms.any fun r => decide (r.1 = k)) = true := by
      obtain ⟨r, hr, rfl⟩ := List.mem_map.mp h
      exact List.any_eq_true.mpr ⟨r, hr, by simp⟩
    rw [if_pos this, if_pos h, List.map_map]
    refine List.map_congr_left fun r hr => ?_
    by_cases q : r.1 = k <;> simp [q]
  · have : ¬ (ms.any fun r => decide (r.1 = k)) = true := fun q => by
      obtain ⟨r, hr, e⟩ := List.any_eq_true.mp q
      exact h (List.mem_map.mpr ⟨r, hr, by simpa using e⟩)
    rw [if_neg this, if_neg h]
    simp
theorem putA_mem {ms : List (Str × α)} {k : Str} {a : α} {r : Str × α} (h : r ∈ putA ms k a) : r = (k, a) ∨ r ∈ ms := by
  unfold putA at h
  split at h
  · obtain ⟨x, hx, rfl⟩ := List.mem_map.mp h
    by_cases q : x.1 = k
    · left; simp [q]
    · right; simpa [q] using hx
  · rcases List.mem_append.mp h with q | q
    · exact .inr q
    · exact .inl (by simpa using q)
theorem putA_length (ms : List (Str × α)) (k : Str) (a : α) : (putA ms k a).length ≤ ms.length + 1 := by
  unfold putA
  split <;> simp
theorem SD.put {kt : Bool} {k : Str} {a : α} (h : SD f Q n c) (hn : n < 100000) (hq : Q k a) : ∃ c', setC kt c (.str k) (f a) = some c' ∧ SD f Q (n + 1) c' := by
  obtain ⟨ms, rfl, h2, h3, h4⟩ := h
  refine ⟨.dk (kvP f (putA ms k a)), ?_, putA ms k a, rfl, ?_, ?_, fun r hr => ?_⟩
  · show (if (kvP f ms).length < sizeLine then (keyOf (.str k)).map fun k => Cell.dk (Fx.put (kvP f ms) k (f a)) else none) = _
    have hz : (kvP f ms).length < sizeLine := Nat.lt_of_lt_of_le (by unfold kvP; rw [List.length_map]; omega) (by decide : 100000 ≤ sizeLine)
    rw [if_pos hz]
    show some (Cell.dk (Fx.put (kvP f ms) (.inr k) (f a))) = _
    rw [kvP_put]
  · rw [putA_keys]
    split
    · exact h2
    · rename_i hk
      rw [List.nodup_append]
      exact ⟨h2, by simp, fun x hx y hy e => hk (by rw [List.mem_singleton.mp hy] at e; rw [← e]; exact hx)⟩
  · exact Nat.le_trans (putA_length ms k a) (by omega)
  · rcases putA_mem hr with q | q
    · rw [q]; exact hq
    · exact h4 r q
theorem look_mem : ∀ {ms : List (Str × α)}, (ms.map (·.1)).Nodup → ∀ r ∈ ms, look (kvP f ms) (.inr r.1) = some (f r.2)
  | [], _, r, h => by simp at h
  | x :: ms, hn, r, h => by
    have hn' := List.nodup_cons.mp (show (x.1 :: ms.map (·.1)).Nodup from hn)
    unfold look kvP
    rw [List.map_cons, List.find?_cons]
    rcases List.mem_cons.mp h with e | e
    · rw [e]; simp
    · have ne : ¬ ((.inr x.1 : Key) = .inr r.1) := fun q => hn'.1 (by rw [Sum.inr.inj q]; exact List.mem_map.mpr ⟨r, e, rfl⟩)
      have := look_mem hn'.2 r e
      unfold look kvP at this
      simp only [ne, decide_false]
      exact this
theorem strKeys_kvP : ∀ ms : List (Str × α), strKeys (kvP f ms) = some (ms.map (·.1))
  | [] => rfl
  | x :: ms => by
    show (strKeys (kvP f ms)).map (x.1 :: ·) = _
    rw [strKeys_kvP ms]
    rfl
def ltS (x y : Str) : Bool := decide (x.cps.toList < y.cps.toList)
/-- sorted(d), and what stands behind each key -/
theorem SD.sorted {kt : Bool} {L : Store} (h : SD f Q n c) (hn : n < 64) : ∃ ms : List (Str × α), (ms.map (·.1)).Pairwise (fun a b => ltS a b = true) ∧ ms.length ≤ n ∧ (∀ r ∈ ms, Q r.1 r.2) ∧
    nSorted L (.o c) = some (.lst (ms.map fun r => .str r.1)) ∧ ∀ r ∈ ms, hIx kt L (.o c) (.str r.1) = some (f r.2) := by
  obtain ⟨ms, rfl, h2, h3, h4⟩ := h
  have hp := sortS_perm (ms.map (·.1))
  have hs := sortS_sorted (ms.map (·.1))
  have hnd : (sortS (ms.map (·.1))).Nodup := hp.nodup_iff.mpr h2
  -- each key's row
  have row : ∀ k ∈ sortS (ms.map (·.1)), ∃ a, (k, a) ∈ ms := fun k hk => by
    obtain ⟨r, hr, rfl⟩ := List.mem_map.mp (hp.mem_iff.mp hk)
    exact ⟨r.2, hr⟩
  have build : ∀ ks : List Str, (∀ k ∈ ks, ∃ a, (k, a) ∈ ms) → ∃ ns : List (Str × α), ns.map (·.1) = ks ∧ ∀ r ∈ ns, r ∈ ms := by
    intro ks
    induction ks with
    | nil => exact fun _ => ⟨[], rfl, by simp⟩
    | cons k ks ih =>
      intro hk
      obtain ⟨a, ha⟩ := hk k (by simp)
      obtain ⟨ns, e, hns⟩ := ih fun x hx => hk x (List.mem_cons_of_mem k hx)
      exact ⟨(k, a) :: ns, by simp [e], fun r hr => by
        rcases List.mem_cons.mp hr with q | q
        · rw [q]; exact ha
        · exact hns r q⟩
  obtain ⟨ns, e, hns⟩ := build _ row
  have hlen : ns.length = ms.length := by
    have := congrArg List.length e
    rw [List.length_map, hp.length_eq, List.length_map] at this
    exact this
  refine ⟨ns, ?_, by omega, fun r hr => h4 r (hns r hr), ?_, fun r hr => ?_⟩
  · rw [e]
    have hboth := hs.and hnd
    refine hboth.imp fun {a b} ⟨hle, hne⟩ => ?_
    unfold ltS
    simp only [decide_eq_true_eq]
    unfold leS at hle
    simp only [decide_eq_true_eq] at hle
    rcases List.le_iff_lt_or_eq.mp hle with q | q
    · exact q
    · exact absurd (str_ext q) hne
  · unfold nSorted
    rw [view_odk]
    dsimp only
    rw [strKeys_kvP]
    dsimp only
    rw [if_pos (by rw [List.length_map]; omega), ← e, List.map_map]
    rfl
  · have := look_mem (f := f) h2 r (hns r hr)
    unfold hIx
    rw [view_odk]
    show (match dLook' kt (.dk (kvP f ms)) (.str r.1) with
      | some (some v) => some v
      | _ => none) = _
    have hd : dLook' kt (.dk (kvP f ms)) (.str r.1) = some (some (f r.2)) := by
      show dLook (.dk (kvP f ms)) (.str r.1) = _
      show (keyOf (.str r.1)).map (fun k => look (kvP f ms) k) = _
      show some (look (kvP f ms) (.inr r.1)) = _
      rw [this]
    rw [hd]
end
end Fx

set_option Elab.async false
set_option linter.all false
set_option maxRecDepth 100000
set_option maxHeartbeats 1000000
/-! Fx part 19: the law's end, for some store. -/
namespace Fx
open PySem L2
def spEnd (K : PySem.W.Frag) (g : DS) : Sp := fun vs H Q _ => ∃ (a : Addr) (ns : List Int) (L' : Store), vs = [.ref a] ∧ Only H ∧ SqL K H a (ns.map V.int) ∧ g [.scr ns] [] = some (.ok (.bl true) L') ∧ ∀ H', Q (.bl true) H'
theorem end_lawE {K : PySem.W.Frag} {mg : Str → Option Value} {kt : Bool} {g : DS} {P : Program} {w : World} {base : Heap} {CX : CXT} {k : Nat} {fa : Addr} {fd : FuncData}
    (F : FnOk P w K mg base CX k fa fd ["script"] (spG ⟨K, mg, kt⟩ 1 g)) : FnOk P w K mg base CX k fa fd ["script"] (spEnd K g) := by
  refine F.imp fun vs H Q E ⟨a, ns, L', e, ho, hs, hg, q⟩ => ?_
  subst e
  refine ⟨[], [], [.scr ns], ⟨rfl, List.nodup_nil, fun n c a h => by simp at h⟩, ⟨_, _, rfl, ⟨a, rfl, ?_⟩, rfl⟩, rfl, ?_⟩
  · rcases hs with (h | ⟨o, h⟩) | h
    · rcases ho a with q | ⟨o, xs, q⟩
      · rw [h] at q; cases q
      · rw [h] at q; cases q
    · exact .inl ⟨by simp, o, h⟩
    · exact .inr h
  · rw [hg]
    intro ρ' H' b _ _ r
    obtain rfl : b = .bl true := r
    exact q H'
end Fx

set_option Elab.async false
set_option linter.all false
set_option maxRecDepth 100000
set_option maxHeartbeats 1000000
/-! Fx part 20: dict(pairs), the pairs in a tuple. -/
namespace FT
open PySem PySem.Spec PyProof.Rows L2 HT
section
variable {X : Cx}
/-- a tuple whose object is known, and has no dict of its own -/
def DT (K : PySem.W.Frag) (H : Hp) (a : Addr) (vs : List V) : Prop := (∃ o : Obj, o.dict = none ∧ H a = some (.frz o (.tup vs))) ∨ Fx.KTup K a vs
theorem DT.at {pins : List (Addr × Obj)} {σ : L2.St} {H : Hp} {s : Shared} {a : Addr} {vs : List V} (I : L2.Inv X pins σ H s) (h : DT X.K H a vs) : ∃ (o : Obj) (its : List Value) (n : Nat), s.heap.get? a = some o ∧ o.cls = .type "tuple" ∧ o.dict = none ∧ o.data = .seq its.toArray n ∧ Vals vs its ∧ vs.length ≤ sizeLine := by
  rcases h with ⟨o, hd, hq⟩ | ⟨o, its, n, hk, hc, hd, hs, hz, r⟩
  · obtain ⟨ho, z, its, rv, o2, ho2, hc, n, hdat⟩ := I.hok a _ hq
    rw [ho] at ho2
    cases ho2
    exact ⟨o, its, n, ho, hc, hd, hdat, rv, z⟩
  · refine ⟨o, its.toList, n, I.kIn a o hk, hc, hd, by simpa using hs, r, ?_⟩
    have := r.length
    rw [this]
    simpa using hz
theorem call_dictT (hcalm : X.calm = true) : CallR X (.type "dict") (fun xs H Q => ∃ (a : Addr) (ps : List Addr) (kvs : List (Key × V)), xs = [.ref a] ∧ DT X.K H a (ps.map V.ref) ∧ Paired (fun p kv => SqT X.K H p [kV kv.1, kv.2]) ps kvs ∧
    ∀ p, H p = none → Q (.ref p) (upd H p (.dK (mergeK [] kvs)))) := by
  intro pins s σ H xs us Q I r q
  obtain ⟨a, ps, kvs, ex, hq, hp, q⟩ := q
  subst ex
  obtain ⟨u, eu, rx⟩ := vals1 r
  subst eu
  cases rx
  obtain ⟨o, its, n, ho, hc, hd, hdat, rv, z⟩ := hq.at I
  have ei := refs_at rv
  subst ei
  obtain ⟨prs, rel, hl, hpr⟩ := pairs_of I hp
  rw [List.length_map] at z
  have ch : ∀ j : Fin prs.length, ∃ r : Value × Value, (∃ b, ps[j.val]? = some b ∧ IsTup s.heap b #[r.1, r.2]) ∧ keyIs prs[j].1 r.1 = true ∧ r.2 = prs[j].2 := fun j => by
    obtain ⟨b, u, e1, e2, e3⟩ := hpr j.val prs[j] (by simp)
    exact ⟨(u, prs[j].2), ⟨b, e1, e2⟩, e3, rfl⟩
  have hj : ∀ (j : Nat) (k v : Value), (List.ofFn fun j : Fin prs.length => (ch j).choose)[j]? = some (k, v) → ∃ hj : j < prs.length, (ch ⟨j, hj⟩).choose = (k, v) := fun j k v e => by
    obtain ⟨h1, h2⟩ := List.getElem?_eq_some_iff.mp e
    rw [List.length_ofFn] at h1
    rw [List.getElem_ofFn] at h2
    exact ⟨h1, h2⟩
  have hlen : (mergeK [] kvs).length ≤ sizeLine := by
    refine Nat.le_trans (length_mergeK kvs []) ?_
    rw [List.length_nil, Nat.zero_add, rel.length, hl]
    exact z
  refine PySem.call_dict_pairs (knd := mixKind X.prog X.w) (kvs := prs) (PairArg.tuple a (ps.map Value.ref).toArray (fun j => (ps[j]?).getD 0) (List.ofFn fun j : Fin prs.length => (ch j).choose)) (I.ok.hd hcalm)
    ⟨⟨o, n, ho, hc, hd, hdat⟩, by simp [hl], fun j k v e => ?_⟩ ⟨by simp, fun i key v e => ?_⟩ (by rw [List.length_ofFn, hl]; exact z) fun h' tk hd' k => ?_
  · obtain ⟨h1, h2⟩ := hj j k v e
    obtain ⟨⟨b, e1, e2⟩, _⟩ := (ch ⟨j, h1⟩).choose_spec
    rw [h2] at e2
    have e1 : ps[j]? = some b := e1
    refine ⟨by simp [e1], .inl ?_⟩
    show s.heap.IsTuple ((ps[j]?).getD 0) _
    rw [e1]
    exact e2
  · obtain ⟨h1, h2⟩ := hj i key v e
    obtain ⟨_, e3, e4⟩ := (ch ⟨i, h1⟩).choose_spec
    rw [h2] at e3 e4
    have e4 : v = prs[i].2 := e4
    exact ⟨prs[i].1, by rw [e4]; simp [h1], e3⟩
  · have hm : (s.heap.objs.size == sysModules) = false := beq_eq_false_iff_ne.mpr (Nat.ne_of_gt I.big)
    exact ⟨.ref s.heap.objs.size, upd H s.heap.objs.size (.dK (mergeK [] kvs)), I.laid (t' := tk) (fun b ob e => k b ob (by simp) e) (Nat.le_refl _) (show ObjOk X.prog X.w _ _ _ (.dK (mergeK [] kvs)) from ⟨hlen, hm, merged [] prs, KV.merge rel .nil, hd'⟩), rfl, q _ (I.hok.fresh (Nat.le_refl _))⟩
end
end FT
namespace Fx
open PySem L2
def pairsOf : List PV → Option (List (Key × PV))
  | [] => some []
  | .tup [k, v] :: r => match keyOf k with
    | some kk => (pairsOf r).map ((kk, v) :: ·)
    | none => none
  | _ :: _ => none
def mergeP (kvs : List (Key × PV)) : List (Key × PV) := kvs.foldl (fun acc kv => put acc kv.1 kv.2) []
theorem pairs_rep {G : Gx} {ρ : List Addr} {H : Hp} : ∀ {xs : List PV} {vs : List V} {kvs : List (Key × PV)}, pairsOf xs = some kvs → Reps G ρ H xs vs → ∃ (ps : List Addr) (l : List (Key × V)), vs = ps.map V.ref ∧ Paired (fun p kv => SqT G.K H p [kV kv.1, kv.2]) ps l ∧ DRep G ρ H kvs l
  | [], vs, kvs, e, h => by
    cases e
    rw [show vs = [] from h]
    exact ⟨[], [], rfl, .nil, DRep.nil⟩
  | x :: xs, vs, kvs, e, h => by
    obtain ⟨v, r, rfl, h1, h2⟩ := h
    unfold pairsOf at e
    split at e
    · rename_i e0; cases e0
    · rename_i k w r' e0
      cases e0
      cases hk : keyOf k with
      | none => rw [hk] at e; cases e
      | some kk =>
        rw [hk] at e
        dsimp only at e
        cases hr : pairsOf xs with
        | none => rw [hr] at e; cases e
        | some kvs' =>
          rw [hr] at e
          cases e
          obtain ⟨ps, l, rfl, hp, hd⟩ := pairs_rep hr h2
          obtain ⟨a, us, rfl, ha, kv, us', rfl, q1, wv, us'', rfl, q2, q3⟩ := h1
          have q3 : us'' = [] := q3
          subst q3
          have := keyOf_rep q1 hk
          subst this
          exact ⟨a :: ps, (kk, wv) :: l, rfl, .cons (KTup.sq ha) hp, DRep.cons q2 hd⟩
    · cases e
theorem merge_rep {G : Gx} {ρ : List Addr} {H : Hp} : ∀ {kvs : List (Key × PV)} {l : List (Key × V)} {acc : List (Key × PV)} {m : List (Key × V)}, DRep G ρ H kvs l → DRep G ρ H acc m → DRep G ρ H (kvs.foldl (fun acc kv => put acc kv.1 kv.2) acc) (mergeK m l)
  | [], l, acc, m, h, k => by
    have : l = [] := by
      have := h.length
      exact List.eq_nil_of_length_eq_zero (by simpa using this.symm)
    subst this
    exact k
  | p :: kvs, l, acc, m, h, k => by
    obtain ⟨v, r, rfl, h1, h2⟩ := h.cons_inv
    show DRep G ρ H (kvs.foldl (fun acc kv => put acc kv.1 kv.2) (put acc p.1 p.2)) (mergeK (putK m p.1 v) r)
    exact merge_rep h2 (k.put h1)
/-- dict(x): pairs in a tuple (kt), in a list; a dict -/
def nDict (kt : Bool) (L : Store) : Hd → Option Cell
  | .v (.tup xs) => (pairsOf xs).map fun kvs => .dk (mergeP kvs)
  | x => match view L x with
    | some (.lst xs) => (pairsOf xs).map fun kvs => .dk (mergeP kvs)
    | some (.dk kvs) => some (.dk kvs)
    | _ => none
theorem Cell.newD {G : Gx} {ρ : List Addr} {H : Hp} {L : Store} {p : Addr} {kvs : List (Key × PV)} {l : List (Key × V)} (t : Rst G ρ L H) (h : DRep G ρ H kvs l) (hp : H p = none) :
    Ext ρ ρ H (upd H p (.dK l)) ∧ Rst G ρ L (upd H p (.dK l)) ∧ p ∉ ρ ∧ CRep G ρ (upd H p (.dK l)) p (.dk kvs) :=
  ⟨Ext.new hp, t.new hp, t.fresh hp, l, upd_same, h.1, h.2.mono (Ext.new hp).toStb⟩
def rDict (K : PySem.W.Frag) : List V → Hp → VK → Prop := fun xs H Q =>
  ((∃ (a : Addr) (ps : List Addr) (kvs : List (Key × V)), xs = [.ref a] ∧ FT.DT K H a (ps.map V.ref) ∧ Paired (fun p kv => SqT K H p [kV kv.1, kv.2]) ps kvs ∧ ∀ p, H p = none → Q (.ref p) (upd H p (.dK (mergeK [] kvs)))) ∨
  (∃ (a : Addr) (ps : List Addr) (kvs : List (Key × V)), xs = [.ref a] ∧ SqL K H a (ps.map V.ref) ∧ Paired (fun p kv => SqT K H p [kV kv.1, kv.2]) ps kvs ∧ ∀ p, H p = none → Q (.ref p) (upd H p (.dK (mergeK [] kvs))))) ∨
  ∃ (a : Addr) (kvs : List (Key × V)), xs = [.ref a] ∧ Rd H a (.dK kvs) ∧ ∀ p, H p = none → Q (.ref p) (upd H p (.dK kvs))
theorem call_dictAll {X : Cx} (hc : X.calm = true) : CallR X (.type "dict") (rDict X.K) := ((FT.call_dictT hc).or (call_dictP hc)).or call_dictD
theorem cn_dict {G : Gx} {K : PySem.W.Frag} {kt : Bool} (hK : G.K = K) (hkt : G.kt = kt) : CalN G (nDict kt) (rDict K) := by
  subst hK hkt
  intro ρ L H x v z Q t hx hz k
  have other : ∀ z, (match view L x with
    | some (.lst xs) => (pairsOf xs).map fun kvs => Cell.dk (mergeP kvs)
    | some (.dk kvs) => some (.dk kvs)
    | _ => none) = some z → (∀ (ρ1 : List Addr) (H1 : Hp) (p : Addr), Ext ρ ρ1 H H1 → Rst G ρ1 L H1 → p ∉ ρ1 → H p = none → CRep G ρ1 H1 p z → Q (.ref p) H1) → rDict G.K [v] H Q := fun z hz k => by
    cases hw : view L x with
    | none => rw [hw] at hz; cases hz
    | some vw =>
      rw [hw] at hz
      have hr := view_rep t hx hw
      cases vw with
      | lst xs =>
        dsimp only at hz
        cases hp : pairsOf xs with
        | none => rw [hp] at hz; cases hz
        | some kvs =>
          rw [hp] at hz
          cases hz
          obtain ⟨a, vs, rfl, ha, hs⟩ := hr
          obtain ⟨ps, l, rfl, h1, h2⟩ := pairs_rep hp hs
          refine .inl (.inr ⟨a, ps, l, rfl, .inl ha, h1, fun p hp => ?_⟩)
          obtain ⟨k1, k2, k3, k4⟩ := Cell.newD t (merge_rep h2 (DRep.nil)) hp
          exact k ρ _ p k1 k2 k3 hp k4
      | dk kvs =>
        cases hz
        obtain ⟨a, l, rfl, ha, hs⟩ := hr
        refine .inr ⟨a, l, rfl, ha, fun p hp => ?_⟩
        obtain ⟨k1, k2, k3, k4⟩ := Cell.newD t hs hp
        exact k ρ _ p k1 k2 k3 hp k4
      | _ => cases hz
  unfold nDict at hz
  split at hz
  · rename_i xs
    cases hp : pairsOf xs with
    | none => rw [hp] at hz; cases hz
    | some kvs =>
      rw [hp] at hz
      cases hz
      obtain ⟨a, vs, rfl, ha, hs⟩ := hx
      obtain ⟨ps, l, rfl, h1, h2⟩ := pairs_rep hp hs
      refine .inl (.inl ⟨a, ps, l, rfl, ?_, h1, fun p hp => ?_⟩)
      · rcases ha with ⟨q, _⟩ | ⟨_, ⟨_, o, hd, h⟩ | ⟨_, h⟩⟩
        · have : FT.plK (ps.map V.ref) = false := by cases ps <;> rfl
          unfold FT.frzT at q
          rw [this] at q
          cases hk : G.kt <;> (rw [hk] at q; cases q)
        · exact .inl ⟨o, hd, h⟩
        · exact .inr h
      · obtain ⟨k1, k2, k3, k4⟩ := Cell.newD t (merge_rep h2 (DRep.nil)) hp
        exact k ρ _ p k1 k2 k3 hp k4
  · exact other z hz k
theorem nv_dict {X : Cx} {c : FC} {kt : Bool} {a : Expr} {f : FF Hd} {p pos : Pos} (hc : X.calm = true) (hk : c.kt = kt) (hg : Gl X "dict") (hm : X.mg "dict" = none) (ha : HV X c a f) (he : starEach (a :: []) X.env = (false, eval a X.env) :: starEach [] X.env := by rfl) : NV X c (.Call (.Name "dict" p) [a] [] pos) (nCall1 (nDict kt) f) :=
  nv_cT (call_dictAll hc) (cn_dict rfl hk) hg hm (by decide +kernel) ha (by decide) (by decide) he
end Fx

set_option Elab.async false
set_option linter.all false
set_option maxRecDepth 100000
set_option maxHeartbeats 1000000
/-! Fx part 21: a def read where no written tuples occur, called where they may. -/
namespace Fx
open PySem L2
mutual
def noTup : PV → Bool
  | .tup _ => false
  | .lst xs => noTups xs
  | .dk _ xs => noTups xs
  | .dt _ xs => noTups xs
  | _ => true
def noTups : List PV → Bool
  | [] => true
  | x :: xs => noTup x && noTups xs
end
def noTupC : Cell → Bool
  | .lst xs => noTups xs
  | .dk kvs => noTups (kvs.map (·.2))
  | .dt kvs => noTups (kvs.map (·.2))
  | .ins _ fs => noTups (fs.map (·.2))
def noTupL (L : Store) : Bool := L.all noTupC
mutual
theorem rep_kt {K : PySem.W.Frag} {mg : Str → Option Value} {a b : Bool} {ρ : List Addr} {H : Hp} : ∀ {x : PV} {v : V}, noTup x = true → Rep ⟨K, mg, a⟩ ρ H x v → Rep ⟨K, mg, b⟩ ρ H x v
  | .non, v, _, h => h
  | .bl _, v, _, h => h
  | .int _, v, _, h => h
  | .str _, v, _, h => h
  | .tup _, v, n, _ => by simp [noTup] at n
  | .lst xs, v, n, h => by
    obtain ⟨a, o, vs, rfl, h1, h2, h3⟩ := h
    exact ⟨a, o, vs, rfl, h1, h2, reps_kt (by simpa [noTup] using n) h3⟩
  | .dk ks xs, v, n, h => by
    obtain ⟨a, o, l, rfl, h1, h2, h3, h4⟩ := h
    exact ⟨a, o, l, rfl, h1, h2, h3, reps_kt (by simpa [noTup] using n) h4⟩
  | .dt ks xs, v, n, h => by
    obtain ⟨a, o, l, rfl, h1, h2, h3, h4⟩ := h
    exact ⟨a, o, l, rfl, h1, h2, h3, reps_kt (by simpa [noTup] using n) h4⟩
  | .loc _, v, _, h => h
  | .scr _, v, _, h => h
theorem reps_kt {K : PySem.W.Frag} {mg : Str → Option Value} {a b : Bool} {ρ : List Addr} {H : Hp} : ∀ {xs : List PV} {vs : List V}, noTups xs = true → Reps ⟨K, mg, a⟩ ρ H xs vs → Reps ⟨K, mg, b⟩ ρ H xs vs
  | [], vs, _, h => h
  | x :: xs, vs, n, h => by
    have n : noTup x = true ∧ noTups xs = true := by simpa [noTups] using n
    obtain ⟨v, r, rfl, h1, h2⟩ := h
    exact ⟨v, r, rfl, rep_kt n.1 h1, reps_kt n.2 h2⟩
end
theorem crep_kt {K : PySem.W.Frag} {mg : Str → Option Value} {a b : Bool} {ρ : List Addr} {H : Hp} {p : Addr} : ∀ {c : Cell}, noTupC c = true → CRep ⟨K, mg, a⟩ ρ H p c → CRep ⟨K, mg, b⟩ ρ H p c
  | .lst xs, n, ⟨vs, h1, h2⟩ => ⟨vs, h1, reps_kt n h2⟩
  | .dk kvs, n, ⟨l, h1, h2, h3⟩ => ⟨l, h1, h2, reps_kt n h3⟩
  | .dt kvs, n, ⟨l, h1, h2, h3⟩ => ⟨l, h1, h2, reps_kt n h3⟩
  | .ins C fs, n, ⟨c, dx, l, h1, h2, h3, h4⟩ => ⟨c, dx, l, h1, h2, h3, reps_kt n h4⟩
theorem rst_kt {K : PySem.W.Frag} {mg : Str → Option Value} {a b : Bool} {ρ : List Addr} {L : Store} {H : Hp} (n : noTupL L = true) (h : Rst ⟨K, mg, a⟩ ρ L H) : Rst ⟨K, mg, b⟩ ρ L H :=
  ⟨h.len, h.nd, fun i c p e q => crep_kt (List.all_eq_true.mp n c (List.mem_of_getElem? e)) (h.cell i c p e q)⟩
def eCallX (n : Nat) (g : DS) (fa : AF) : EF := fun s L => bnd (fa s L) fun args L1 => if args.length = n ∧ noTups args = true ∧ noTupL L1 = true then match g args L1 with
  | some (.ok v L2) => if noTup v = true ∧ noTupL L2 = true then some (.ok v L2) else none
  | _ => none else none
theorem ev_clX {X : Cx} {c : FC} {k n : Nat} {f : Addr} {fd : FuncData} {ps : List Str} {g : DS} {x : Str} {p pos : Pos} {e : Expr} {es : List Expr} {fa : AF} (F : FnOk X.prog X.w X.K X.mg X.base CX0 k f fd ps (spG (gx X false) n g)) (hr : Room k X.A) (hg : Gl X x) (hm : X.mg x = some (.ref f)) (hk : PySem.W.keepIn X.K (.ref f) = true) (hb : Binds X.K fd ps [])
    (ha : AV X c (e :: es) fa) (hdb : (x == ("__debug__" : Str)) = false := by decide) (he : starEach (e :: es) X.env = (false, eval e X.env) :: starEach es X.env := by rfl) (hpl : (backTo pos (starEach es X.env)).any (·.1) = false := by rfl) :
    EV X c (.Call (.Name x p) (e :: es) [] pos) (eCallX n g fa) := by
  refine pe_imp (pe_call F hr hg hm hk hb .nil (E := E0) pass0 ha hdb he hpl) fun σ H Q q => ?_
  refine tOf.first (R := RA _) (R' := RE _) (k := fun s args L1 => if args.length = n ∧ noTups args = true ∧ noTupL L1 = true then match g args L1 with
    | some (.ok v L2) => if noTup v = true ∧ noTupL L2 = true then some (.ok v L2) else none
    | _ => none else none) q fun ρ L s args L1 ρ1 H1 vs r e1 q1 o => ?_
  split at o
  · rename_i hl
    refine ⟨ρ1, L1, args, rst_kt hl.2.2 r.st, ?_, hl.1, ?_⟩
    · rw [List.append_nil]
      exact reps_kt hl.2.1 q1
    · match hgg : g args L1, o with
      | some (.ok v L2), o =>
        dsimp only at o
        split at o
        · rename_i hn
          intro ρ' H' b ex t rv
          exact o ρ' H' b ex (rst_kt hn.2 t) (rep_kt hn.1 rv)
        · exact o.elim
      | some (.err y L2), o => exact o.elim
      | none, o => exact o.elim
  · exact o.elim
end Fx

set_option Elab.async false
set_option linter.all false
set_option maxRecDepth 100000
set_option maxHeartbeats 1000000
/-! Fx part 22: fractions in lowest terms. -/
namespace Fx
open PySem L2
abbrev Fr := Nat × Nat
/-- in lowest terms -/
def red (p q : Nat) : Fr := (p / Nat.gcd p q, q / Nat.gcd p q)
def frP (a : Fr) : PV := .tup [.int a.1, .int a.2]
/-- a fraction in lowest terms -/
def Low (a : Fr) : Prop := 0 < a.2 ∧ Nat.gcd a.1 a.2 = 1
theorem red_low {p q : Nat} (hq : 0 < q) : Low (red p q) := by
  have hg := Nat.gcd_pos_of_pos_right p hq
  refine ⟨Nat.div_pos (Nat.gcd_le_right p hq) hg, ?_⟩
  show Nat.gcd (p / Nat.gcd p q) (q / Nat.gcd p q) = 1
  rw [Nat.gcd_div (Nat.gcd_dvd_left p q) (Nat.gcd_dvd_right p q), Nat.div_self hg]
theorem red_self {a : Fr} (h : Low a) : red a.1 a.2 = a := by
  unfold red
  rw [h.2]
  simp
theorem red_cross {p q : Nat} (hq : 0 < q) : (red p q).1 * q = p * (red p q).2 := by
  have h1 := Nat.div_mul_cancel (Nat.gcd_dvd_left p q)
  have h2 := Nat.div_mul_cancel (Nat.gcd_dvd_right p q)
  show p / Nat.gcd p q * q = p * (q / Nat.gcd p q)
  generalize p / Nat.gcd p q = x at *
  generalize q / Nat.gcd p q = y at *
  calc x * q = x * (y * Nat.gcd p q) := by rw [h2]
    _ = (x * Nat.gcd p q) * y := by rw [Nat.mul_comm y, Nat.mul_assoc]
    _ = p * y := by rw [h1]
theorem low_unique {a b : Fr} (ha : Low a) (hb : Low b) (h : a.1 * b.2 = b.1 * a.2) : a = b := by
  obtain ⟨a1, a2⟩ := a
  obtain ⟨b1, b2⟩ := b
  obtain ⟨ha0, ha1⟩ := ha
  obtain ⟨hb0, hb1⟩ := hb
  dsimp only at *
  have d1 : a2 ∣ b2 := (Nat.Coprime.symm ha1).dvd_of_dvd_mul_left ⟨b1, by rw [h, Nat.mul_comm]⟩
  have d2 : b2 ∣ a2 := (Nat.Coprime.symm hb1).dvd_of_dvd_mul_left ⟨a1, by rw [← h, Nat.mul_comm]⟩
  have e := Nat.dvd_antisymm d1 d2
  subst e
  have := Nat.eq_of_mul_eq_mul_right ha0 h
  rw [this]
theorem red_eq {p q p' q' : Nat} (hq : 0 < q) (hq' : 0 < q') (h : p * q' = p' * q) : red p q = red p' q' := by
  refine low_unique (red_low hq) (red_low hq') ?_
  have h1 := red_cross (p := p) hq
  have h2 := red_cross (p := p') hq'
  have g : 0 < q * q' := Nat.mul_pos hq hq'
  refine Nat.eq_of_mul_eq_mul_right g ?_
  generalize (red p q).1 = x at *
  generalize (red p q).2 = y at *
  generalize (red p' q').1 = z at *
  generalize (red p' q').2 = w at *
  calc x * w * (q * q') = (x * q) * (w * q') := by simp [Nat.mul_comm, Nat.mul_left_comm]
    _ = p * y * (w * q') := by rw [h1]
    _ = (p * q') * (y * w) := by simp [Nat.mul_comm, Nat.mul_left_comm]
    _ = (p' * q) * (y * w) := by rw [h]
    _ = (p' * w) * (y * q) := by simp [Nat.mul_comm, Nat.mul_left_comm]
    _ = (z * q') * (y * q) := by rw [← h2]
    _ = z * y * (q * q') := by simp [Nat.mul_comm, Nat.mul_left_comm]
theorem red_zero {q : Nat} (hq : 0 < q) : red 0 q = (0, 1) := by
  unfold red
  rw [Nat.gcd_zero_left, Nat.zero_div, Nat.div_self hq]
theorem low_zero {a : Fr} (h : Low a) (h0 : a.1 = 0) : a = (0, 1) := by
  obtain ⟨a1, a2⟩ := a
  obtain ⟨_, h2⟩ := h
  dsimp only at *
  subst h0
  rw [Nat.gcd_zero_left] at h2
  rw [h2]
theorem red_pos {p q : Nat} (hp : 0 < p) (hq : 0 < q) : 0 < (red p q).1 := Nat.div_pos (Nat.gcd_le_left q hp) (Nat.gcd_pos_of_pos_right p hq)
/-- size -/
def Bd (k : Nat) (a : Fr) : Prop := a.1 < 2 ^ k ∧ a.2 < 2 ^ k
theorem Bd.mono {k m : Nat} {a : Fr} (h : Bd k a) (hm : k ≤ m) : Bd m a := ⟨Nat.lt_of_lt_of_le h.1 (Nat.pow_le_pow_right (by decide) hm), Nat.lt_of_lt_of_le h.2 (Nat.pow_le_pow_right (by decide) hm)⟩
theorem bd_red {p q k : Nat} (hp : p < 2 ^ k) (hq : q < 2 ^ k) : Bd k (red p q) := ⟨Nat.lt_of_le_of_lt (Nat.div_le_self _ _) hp, Nat.lt_of_le_of_lt (Nat.div_le_self _ _) hq⟩
theorem mul_lt {a b j k : Nat} (ha : a < 2 ^ j) (hb : b < 2 ^ k) : a * b < 2 ^ (j + k) := by
  rw [Nat.pow_add]
  exact Nat.mul_lt_mul'' ha hb
theorem two_add {a b k : Nat} (ha : a < 2 ^ k) (hb : b < 2 ^ k) : a + b < 2 ^ (k + 1) := by
  rw [Nat.pow_succ]
  omega
def addF (a b : Fr) : Fr := red (a.1 * b.2 + b.1 * a.2) (a.2 * b.2)
def mulF (a b : Fr) : Fr := red (a.1 * b.1) (a.2 * b.2)
def divF (a b : Fr) : Fr := red (a.1 * b.2) (a.2 * b.1)
def oneSub (a : Fr) : Fr := red (a.2 - a.1) a.2
theorem addF_low {a b : Fr} (ha : Low a) (hb : Low b) : Low (addF a b) := red_low (Nat.mul_pos ha.1 hb.1)
theorem mulF_low {a b : Fr} (ha : Low a) (hb : Low b) : Low (mulF a b) := red_low (Nat.mul_pos ha.1 hb.1)
theorem addF_bd {a b : Fr} {j k : Nat} (ha : Bd j a) (hb : Bd k b) : Bd (j + k + 1) (addF a b) := by
  refine bd_red (two_add (mul_lt ha.1 hb.2) ?_) (Nat.lt_trans (mul_lt ha.2 hb.2) (Nat.pow_lt_pow_right (by decide) (by omega)))
  have := mul_lt hb.1 ha.2
  rwa [Nat.add_comm k j] at this
theorem mulF_bd {a b : Fr} {j k : Nat} (ha : Bd j a) (hb : Bd k b) : Bd (j + k) (mulF a b) := bd_red (mul_lt ha.1 hb.1) (mul_lt ha.2 hb.2)
theorem divF_bd {a b : Fr} {j k : Nat} (ha : Bd j a) (hb : Bd k b) : Bd (j + k) (divF a b) := bd_red (mul_lt ha.1 hb.2) (mul_lt ha.2 hb.1)
/-- (w * s) / w = s -/
theorem div_mul {w s : Fr} (hw : Low w) (hs : Low s) (h0 : 0 < w.1) : divF (mulF w s) w = s := by
  have hm := red_cross (p := w.1 * s.1) (Nat.mul_pos hw.1 hs.1)
  have hl := mulF_low hw hs
  refine Eq.trans (red_eq (p' := s.1) (q' := s.2) (Nat.mul_pos hl.1 h0) hs.1 ?_) (red_self hs)
  show (mulF w s).1 * w.2 * s.2 = s.1 * ((mulF w s).2 * w.1)
  have hm : (mulF w s).1 * (w.2 * s.2) = w.1 * s.1 * (mulF w s).2 := hm
  rw [Nat.mul_assoc, hm]
  simp [Nat.mul_comm, Nat.mul_left_comm]
theorem zero_add {a : Fr} (h : Low a) : addF (0, 1) a = a := by
  unfold addF
  simp
  exact red_self h
end Fx

set_option Elab.async false
set_option linter.all false
set_option maxRecDepth 100000
set_option maxHeartbeats 1000000
/-! Fx part 23: sorted lists of pairs of ints. -/
namespace FT
open PySem PySem.Spec PyProof.Rows L2 HT
def adr : Value → Addr
  | .ref a => a
  | _ => 0
def leP (p q : Int × Int) : Prop := p.1 < q.1 ∨ (p.1 = q.1 ∧ p.2 ≤ q.2)
def rSortedQ (K : PySem.W.Frag) : List V → Hp → VK → Prop := fun vs H Q => ∃ (a : Addr) (ts : List Addr) (ks : List (Int × Int)), vs = [V.ref a] ∧ SqL K H a (ts.map V.ref) ∧ Paired (fun t (p : Int × Int) => SqT K H t [.int p.1, .int p.2]) ts ks ∧
  ∀ (zs : List (Addr × (Int × Int))) p, zs.Perm (ts.zip ks) → (zs.map (·.2)).Pairwise leP → H p = none → Q (.ref p) (upd H p (.lst (zs.map fun z => V.ref z.1)))
section
variable {X : Cx}
theorem paired_get {α β : Type} {R : α → β → Prop} : ∀ {l : List α} {m : List β}, Paired R l m → l.length = m.length ∧ ∀ p ∈ l.zip m, R p.1 p.2
  | _, _, .nil => ⟨rfl, fun p h => by simp at h⟩
  | _, _, .cons h t => by
    obtain ⟨e, g⟩ := paired_get t
    refine ⟨by simp [e], fun p hp => ?_⟩
    rw [List.zip_cons_cons] at hp
    rcases List.mem_cons.mp hp with q | q
    · rw [q]; exact h
    · exact g p q
theorem zip_map_eq {α β γ : Type} (f : α → γ) (k : α → β) : ∀ {l : List α} {m : List β}, l.length = m.length → (∀ p ∈ l.zip m, k p.1 = p.2) → l.zip m = l.map fun t => (t, k t)
  | [], m, _, _ => by simp
  | x :: l, [], h, _ => by simp at h
  | x :: l, y :: m, h, g => by
    rw [List.zip_cons_cons, List.map_cons, zip_map_eq f k (l := l) (m := m) (by simpa using h) fun p hp => g p (by rw [List.zip_cons_cons]; exact List.mem_cons_of_mem _ hp)]
    have := g (x, y) (by simp)
    rw [this]
open Classical in
theorem cr_sortedQ : CallR X (.builtin "sorted") (rSortedQ X.K) := by
  intro pins s σ H vs us Q I r h
  obtain ⟨a, ts, ks, rfl, hs, hp, q⟩ := h
  obtain ⟨its, rv, hl, hz⟩ := I.list hs
  obtain ⟨u, rfl, ru⟩ := vals1 r
  obtain rfl : u = Value.ref a := ru
  have ei := refs_at rv
  subst ei
  obtain ⟨hlen, hpp⟩ := paired_get hp
  let k : Value → Int × Int := fun u => if h : ∃ p : Int × Int, Srt.IsPair s.heap u p.1 p.2 then h.choose else (0, 0)
  have isp : ∀ p ∈ ts.zip ks, Srt.IsPair s.heap (.ref p.1) p.2.1 p.2.2 := fun p hm => by
    obtain ⟨its2, r2, ⟨o, ho, hc, n, hd⟩, _⟩ := I.tuple (hpp p hm)
    obtain ⟨u1, u2, rfl, ri, rj⟩ := vals2 r2
    obtain ⟨t1, rfl⟩ := ri
    obtain ⟨t2, rfl⟩ := rj
    exact ⟨p.1, o, t1, t2, n, rfl, ho, hc, hd⟩
  have uniq : ∀ (u : Value) (p q : Int × Int), Srt.IsPair s.heap u p.1 p.2 → Srt.IsPair s.heap u q.1 q.2 → p = q := fun u p q h1 h2 => by
    obtain ⟨t, o, t1, t2, n, rfl, ho, hc, hd⟩ := h1
    obtain ⟨t', o', t1', t2', n', e, ho', hc', hd'⟩ := h2
    cases e
    rw [ho] at ho'
    cases ho'
    rw [hd] at hd'
    injection hd' with e1 e2
    have e3 := congrArg Array.toList e1
    simp at e3
    exact Prod.ext e3.1.1 e3.2.1
  have hk : ∀ p ∈ ts.zip ks, k (.ref p.1) = p.2 := fun p hm => by
    have ex : ∃ q : Int × Int, Srt.IsPair s.heap (.ref p.1) q.1 q.2 := ⟨p.2, isp p hm⟩
    show (if h : ∃ q : Int × Int, Srt.IsPair s.heap (.ref p.1) q.1 q.2 then h.choose else (0, 0)) = _
    rw [dif_pos ex]
    exact uniq _ _ _ ex.choose_spec (isp p hm)
  have hzip := zip_map_eq (fun t => t) (fun t => k (.ref t)) hlen hk
  refine SrtO.sorted_pairsO (k := k) hl.isList (by rw [← rv.length]; exact hz) (fun v hv => ?_) fun h' d out h1 h2 kp hd hn => ?_
  · obtain ⟨t, ht, rfl⟩ := List.mem_map.mp hv
    have hm : (t, k (.ref t)) ∈ ts.zip ks := by rw [hzip]; exact List.mem_map.mpr ⟨t, ht, rfl⟩
    exact isp _ hm
  · have h3 : ∀ u ∈ out, u = Value.ref (adr u) := fun u hu => by
      obtain ⟨t, _, rfl⟩ := List.mem_map.mp (h2.perm.mem_iff.mp hu)
      rfl
    obtain ⟨n, hn⟩ := hn
    have eo : out = (out.map adr).map Value.ref := by
      rw [List.map_map]
      conv => lhs; rw [← List.map_id out]
      exact List.map_congr_left h3
    have pa : (out.map adr).Perm ts := by
      have := h2.perm.map adr
      rw [List.map_map] at this
      simpa [Function.comp_def, adr] using this
    refine ⟨.ref d, upd H d (.lst (((out.map adr).map fun t => (t, k (.ref t))).map fun z => V.ref z.1)), I.laid (t' := s.toks) kp hd ⟨?_, out, n, ?_, hn⟩, rfl, q _ d (by rw [hzip]; exact pa.map _) ?_ (I.hok.fresh hd)⟩
    · rw [List.length_map, List.length_map, List.length_map, h2.perm.length_eq, List.length_map]
      rw [List.length_map] at hz
      exact hz
    · rw [List.map_map]
      have e2 : ((fun z : Addr × (Int × Int) => V.ref z.1) ∘ fun t => (t, k (.ref t))) = V.ref := rfl
      rw [e2]
      conv => rhs; rw [eo]
      generalize out.map adr = l
      induction l with
      | nil => exact .nil
      | cons x l ih => exact .cons rfl ih
    · rw [List.map_map, List.map_map, List.pairwise_map]
      refine h1.imp_of_mem fun {x y} hx hy hxy => ?_
      show leP (k (.ref (adr x))) (k (.ref (adr y)))
      rw [← h3 x hx, ← h3 y hy]
      have := SrtO.lexB_no.mp hxy
      unfold leP
      omega
end
end FT
namespace Fx
open PySem L2
def pvPair (p : Int × Int) : PV := .tup [.int p.1, .int p.2]
def pairInts : List PV → Option (List (Int × Int))
  | [] => some []
  | .tup [.int i, .int j] :: r => (pairInts r).map ((i, j) :: ·)
  | _ :: _ => none
theorem pairInts_some : ∀ {xs : List PV} {ks : List (Int × Int)}, pairInts xs = some ks → xs = ks.map pvPair
  | [], ks, h => by cases h; rfl
  | x :: r, ks, h => by
    unfold pairInts at h
    split at h
    · rename_i e; cases e
    · rename_i i j r' e
      cases e
      cases hr : pairInts r with
      | none => rw [hr] at h; cases h
      | some ms =>
        rw [hr] at h
        cases h
        rw [pairInts_some hr]
        rfl
    · cases h
theorem pairInts_map : ∀ ks : List (Int × Int), pairInts (ks.map pvPair) = some ks
  | [] => rfl
  | k :: ks => by
    show (pairInts (ks.map pvPair)).map ((k.1, k.2) :: ·) = _
    rw [pairInts_map ks]
    rfl
def leB (p q : Int × Int) : Bool := decide (p.1 < q.1 ∨ (p.1 = q.1 ∧ p.2 ≤ q.2))
def sortPr (ks : List (Int × Int)) : List (Int × Int) := ks.mergeSort leB
theorem sortPr_perm (ks : List (Int × Int)) : (sortPr ks).Perm ks := List.mergeSort_perm _ _
theorem sortPr_sorted (ks : List (Int × Int)) : (sortPr ks).Pairwise FT.leP := by
  have := List.pairwise_mergeSort (le := leB) (fun a b c h1 h2 => by simp only [leB, decide_eq_true_eq] at *; omega) (fun a b => by simp only [leB, Bool.or_eq_true, decide_eq_true_eq]; omega) ks
  exact this.imp fun h => by simpa [leB, FT.leP] using h
theorem sortPr_eq {ys ks : List (Int × Int)} (h : ys.Perm ks) (s : ys.Pairwise FT.leP) : ys = sortPr ks :=
  List.Perm.eq_of_pairwise (le := FT.leP) (fun a b _ _ h1 h2 => by
    unfold FT.leP at h1 h2
    exact Prod.ext (by omega) (by omega)) s (sortPr_sorted ks) (h.trans (sortPr_perm ks).symm)
theorem pairs_paired {G : Gx} {ρ : List Addr} {H : Hp} : ∀ {ks : List (Int × Int)} {vs : List V}, Reps G ρ H (ks.map pvPair) vs → ∃ ts : List Addr, vs = ts.map V.ref ∧ Paired (fun t (p : Int × Int) => SqT G.K H t [.int p.1, .int p.2]) ts ks ∧ Paired (fun t p => Rep G ρ H (pvPair p) (.ref t)) ts ks
  | [], vs, h => ⟨[], h, .nil, .nil⟩
  | k :: ks, vs, h => by
    obtain ⟨v, r, rfl, h1, h2⟩ := h
    obtain ⟨ts, rfl, p1, p2⟩ := pairs_paired h2
    have h1' := h1
    obtain ⟨a, us, rfl, ha, v1, us1, rfl, e1, v2, us2, rfl, e2, e3⟩ := h1
    have e1 : v1 = .int k.1 := e1
    have e2 : v2 = .int k.2 := e2
    have e3 : us2 = [] := e3
    subst e1 e2 e3
    exact ⟨a :: ts, rfl, .cons (KTup.sq ha) p1, .cons h1' p2⟩
theorem reps_of_mem {G : Gx} {ρ : List Addr} {H : Hp} : ∀ zs : List (Addr × (Int × Int)), (∀ z ∈ zs, Rep G ρ H (pvPair z.2) (.ref z.1)) → Reps G ρ H ((zs.map (·.2)).map pvPair) (zs.map fun z => V.ref z.1)
  | [], _ => rfl
  | z :: zs, h => ⟨_, _, rfl, h z (by simp), reps_of_mem zs fun y hy => h y (List.mem_cons_of_mem z hy)⟩
def nSortedP (L : Store) (x : Hd) : Option Cell := match view L x with
  | some (.lst xs) => (pairInts xs).map fun ks => .lst ((sortPr ks).map pvPair)
  | _ => none
theorem cn_sortedP {G : Gx} {K : PySem.W.Frag} (hK : G.K = K) : CalN G nSortedP (FT.rSortedQ K) := by
  subst hK
  intro ρ L H x v z Q t hx hz k
  unfold nSortedP at hz
  cases hw : view L x with
  | none => rw [hw] at hz; cases hz
  | some vw =>
    rw [hw] at hz
    have hr := view_rep t hx hw
    cases vw with
    | lst xs =>
      dsimp only at hz
      cases hp : pairInts xs with
      | none => rw [hp] at hz; cases hz
      | some ks =>
        rw [hp] at hz
        cases hz
        have := pairInts_some hp
        subst this
        obtain ⟨a, vs, rfl, ha, hs⟩ := hr
        obtain ⟨ts, rfl, p1, p2⟩ := pairs_paired hs
        refine ⟨a, ts, ks, rfl, .inl ha, p1, fun zs p pm pw hn => ?_⟩
        obtain ⟨hlen, g⟩ := FT.paired_get p2
        have e : zs.map (·.2) = sortPr ks := sortPr_eq (by
          have := pm.map (·.2)
          rwa [List.map_snd_zip (by omega)] at this) pw
        have hrep := reps_of_mem (G := G) (ρ := ρ) (H := H) zs fun z hz => g z (pm.mem_iff.mp hz)
        rw [e] at hrep
        obtain ⟨k1, k2, k3, k4⟩ := Cell.new t hrep hn
        exact k ρ _ p k1 k2 k3 hn k4
    | _ => cases hz
theorem nv_sortedP {X : Cx} {c : FC} {a : Expr} {f : FF Hd} {p pos : Pos} (hg : Gl X "sorted") (hm : X.mg "sorted" = none) (ha : HV X c a f) (he : starEach (a :: []) X.env = (false, eval a X.env) :: starEach [] X.env := by rfl) : NV X c (.Call (.Name "sorted" p) [a] [] pos) (nCall1 nSortedP f) :=
  nv_cB FT.cr_sortedQ (cn_sortedP rfl) hg hm (by decide +kernel) ha (by decide) (by decide) he
end Fx

set_option Elab.async false
set_option linter.all false
set_option maxRecDepth 100000
set_option maxHeartbeats 1000000
/-! Fx part 24: what a fraction is worth. -/
namespace Fx
open PySem L2
def val (a : Fr) : Rat := (a.1 : Rat) / (a.2 : Rat)
theorem rat_pos {n : Nat} (h : 0 < n) : (n : Rat) ≠ 0 := fun e => by
  have : n = 0 := by exact_mod_cast e
  omega
theorem low_ext {a b : Fr} (ha : Low a) (hb : Low b) (h : val a = val b) : a = b := by
  refine low_unique ha hb ?_
  unfold val at h
  have h1 := rat_pos ha.1
  have h2 := rat_pos hb.1
  have h3 : (a.1 : Rat) * (b.2 : Rat) = (b.1 : Rat) * (a.2 : Rat) := by grind
  exact_mod_cast h3
theorem val_red {p q : Nat} (hq : 0 < q) : val (red p q) = (p : Rat) / (q : Rat) := by
  have hc := red_cross (p := p) hq
  have hl := (red_low (p := p) hq).1
  unfold val
  have h1 := rat_pos hq
  have h2 := rat_pos hl
  have h3 : ((red p q).1 : Rat) * (q : Rat) = (p : Rat) * ((red p q).2 : Rat) := by exact_mod_cast hc
  grind
theorem val_add {a b : Fr} (ha : Low a) (hb : Low b) : val (addF a b) = val a + val b := by
  unfold addF
  rw [val_red (Nat.mul_pos ha.1 hb.1)]
  have h1 := rat_pos ha.1
  have h2 := rat_pos hb.1
  unfold val
  push_cast
  grind
theorem val_mul {a b : Fr} (ha : Low a) (hb : Low b) : val (mulF a b) = val a * val b := by
  unfold mulF
  rw [val_red (Nat.mul_pos ha.1 hb.1)]
  have h1 := rat_pos ha.1
  have h2 := rat_pos hb.1
  unfold val
  push_cast
  grind
theorem val_div {a b : Fr} (ha : Low a) (hb : Low b) (h0 : 0 < b.1) : val (divF a b) = val a / val b := by
  unfold divF
  rw [val_red (Nat.mul_pos ha.1 h0)]
  have h1 := rat_pos ha.1
  have h2 := rat_pos hb.1
  have h3 := rat_pos h0
  unfold val
  push_cast
  grind
theorem val_one {a : Fr} (ha : Low a) (h : a.1 ≤ a.2) : val (oneSub a) = 1 - val a := by
  unfold oneSub
  rw [val_red ha.1]
  have h1 := rat_pos ha.1
  have h2 : ((a.2 - a.1 : Nat) : Rat) = (a.2 : Rat) - (a.1 : Rat) := by
    have e : a.2 = (a.2 - a.1) + a.1 := by omega
    have e2 : ((a.2 : Nat) : Rat) = ((a.2 - a.1 : Nat) : Rat) + (a.1 : Rat) := by
      conv => lhs; rw [e]
      push_cast
      rfl
    grind
  unfold val
  rw [h2]
  grind
theorem val_zero {a : Fr} (ha : Low a) : val a = 0 ↔ a = (0, 1) := by
  constructor
  · intro h
    refine low_zero ha ?_
    have h1 := rat_pos ha.1
    unfold val at h
    have h2 : (a.1 : Rat) = 0 := by grind
    exact_mod_cast h2
  · rintro rfl
    unfold val
    grind
theorem val_lt {a b : Fr} (ha : Low a) (hb : Low b) : val a < val b ↔ a.1 * b.2 < b.1 * a.2 := by
  have h1 : (0 : Rat) < (a.2 : Rat) := by exact_mod_cast ha.1
  have h2 : (0 : Rat) < (b.2 : Rat) := by exact_mod_cast hb.1
  unfold val
  rw [Rat.div_lt_iff h1]
  have e : (b.1 : Rat) / (b.2 : Rat) * (a.2 : Rat) = ((b.1 : Rat) * (a.2 : Rat)) / (b.2 : Rat) := by
    have := rat_pos hb.1
    grind
  rw [e, Rat.lt_div_iff h2]
  constructor
  · intro h
    exact_mod_cast h
  · intro h
    exact_mod_cast h
theorem val_le {a b : Fr} (ha : Low a) (hb : Low b) : val a ≤ val b ↔ a.1 * b.2 ≤ b.1 * a.2 := by
  have h := val_lt hb ha
  constructor
  · intro q
    by_cases h2 : a.1 * b.2 ≤ b.1 * a.2
    · exact h2
    · exact absurd (h.mpr (by omega)) (Rat.not_lt.mpr q)
  · intro q
    refine Rat.not_lt.mp fun r => ?_
    have := h.mp r
    omega
def subF (b a : Fr) : Fr := red (b.1 * a.2 - a.1 * b.2) (b.2 * a.2)
theorem val_sub {a b : Fr} (ha : Low a) (hb : Low b) (h : a.1 * b.2 ≤ b.1 * a.2) : val (subF b a) = val b - val a := by
  unfold subF
  rw [val_red (Nat.mul_pos hb.1 ha.1)]
  have h1 := rat_pos ha.1
  have h2 := rat_pos hb.1
  have h3 : ((b.1 * a.2 - a.1 * b.2 : Nat) : Rat) = (b.1 : Rat) * (a.2 : Rat) - (a.1 : Rat) * (b.2 : Rat) := by
    generalize hx : b.1 * a.2 = x at h
    generalize hy : a.1 * b.2 = y at h
    have e : x = (x - y) + y := by omega
    have e2 : ((x : Nat) : Rat) = ((x - y : Nat) : Rat) + (y : Rat) := by
      conv => lhs; rw [e]
      push_cast
      rfl
    have e3 : (x : Rat) = (b.1 : Rat) * (a.2 : Rat) := by rw [← hx]; push_cast; rfl
    have e4 : (y : Rat) = (a.1 : Rat) * (b.2 : Rat) := by rw [← hy]; push_cast; rfl
    grind
  rw [h3]
  unfold val
  push_cast
  grind
end Fx

set_option Elab.async false
set_option linter.all false
set_option maxRecDepth 100000
set_option maxHeartbeats 1000000
/-! Fx part 25: a, b = [..], y and a, b = x, [..]. -/
namespace Fx
open PySem L2
section
variable {X : Cx} {c : FC} {i j : Nat} {x y : Str} {a b : Expr} {f g : EF} {fc gc : CF} {px py pt pos : Pos} {kt k2 : Nat} {pt2 : Pos}
def sParO (i j : Nat) (fc : CF) (g : EF) : SF := fun s L => bnd (fc s L) fun v L1 => bnd (g s L1) fun w L2 => some (.ok (.nx ((s.set i (.own v)).set j (.val w))) L2)
def sParV (i j : Nat) (f : EF) (gc : CF) : SF := fun s L => bnd (f s L) fun v L1 => bnd (gc s L1) fun w L2 => some (.ok (.nx ((s.set i (.val v)).set j (.own w))) L2)
theorem es_parO (hc : X.calm = true) (hN : X.N.Nodup) (hi : X.N[i]? = some x) (hj : X.N[j]? = some y) (hij : i ≠ j)
    (hx : X.env.scope.names.lookup x = some .local) (hy : X.env.scope.names.lookup y = some .local) (ha : NV X c a fc) (hb : EV X c b g)
    (hw : swappedStores [.Tuple [.Name x px, .Name y py] kt pt] (.Tuple [a, b] k2 pt2) X.env = pure (some [x, y]))
    (hs : swapsWithSole [.Tuple [.Name x px, .Name y py] kt pt] (.Tuple [a, b] k2 pt2) pos.line X.env = pure false := by rfl) (he : starEach (a :: [b]) X.env = (false, eval a X.env) :: starEach [b] X.env := by rfl) (he' : starEach [b] X.env = (false, eval b X.env) :: starEach [] X.env := by rfl) :
    ES X c (.Assign [.Tuple [.Name x px, .Name y py] kt pt] (.Tuple [a, b] k2 pt2) pos) (sParO i j fc g) := ps_imp (ps_par hc hN hi hj hij hx hy (pa_cons ha (pa_cons hb pa_nil he') he) hw hs) fun D σ H q => by
  refine tS.first (R := RN _) (k := fun s v L1 => bnd (g s L1) fun w L2 => some (.ok (.nx ((s.set i (.own v)).set j (.val w))) L2)) q fun ρ L s v L1 ρ1 H1 u r e1 t1 q1 o => ?_
  refine ⟨ρ1, L1, s, r.go e1 t1, OuS.bind (R := RE _) o (r.ext.trans e1) fun w L2 ρ2 H2 u2 _ e2 t2 q2 o2 => ⟨u, u2, rfl, ?_⟩⟩
  exact o2 ρ2 H2 _ Stb.refl (((r.ownNew e1 t1 q1 i).go e2 t2).set q2)
theorem es_parV (hc : X.calm = true) (hN : X.N.Nodup) (hi : X.N[i]? = some x) (hj : X.N[j]? = some y) (hij : i ≠ j)
    (hx : X.env.scope.names.lookup x = some .local) (hy : X.env.scope.names.lookup y = some .local) (ha : EV X c a f) (hb : NV X c b gc)
    (hw : swappedStores [.Tuple [.Name x px, .Name y py] kt pt] (.Tuple [a, b] k2 pt2) X.env = pure (some [x, y]))
    (hs : swapsWithSole [.Tuple [.Name x px, .Name y py] kt pt] (.Tuple [a, b] k2 pt2) pos.line X.env = pure false := by rfl) (he : starEach (a :: [b]) X.env = (false, eval a X.env) :: starEach [b] X.env := by rfl) (he' : starEach [b] X.env = (false, eval b X.env) :: starEach [] X.env := by rfl) :
    ES X c (.Assign [.Tuple [.Name x px, .Name y py] kt pt] (.Tuple [a, b] k2 pt2) pos) (sParV i j f gc) := ps_imp (ps_par hc hN hi hj hij hx hy (pa_cons ha (pa_cons hb pa_nil he') he) hw hs) fun D σ H q => by
  refine tS.first (R := RE _) (k := fun s v L1 => bnd (gc s L1) fun w L2 => some (.ok (.nx ((s.set i (.val v)).set j (.own w))) L2)) q fun ρ L s v L1 ρ1 H1 u r e1 t1 q1 o => ?_
  refine ⟨ρ1, L1, s, r.go e1 t1, OuS.bind (R := RN _) o (r.ext.trans e1) fun w L2 ρ2 H2 u2 _ e2 t2 q2 o2 => ⟨u, u2, rfl, ?_⟩⟩
  exact o2 ρ2 H2 _ Stb.refl (((r.go e1 t1).set q1).ownNew e2 t2 q2 j)
end
section
variable {i j : Nat} {f : EF} {fc : CF} {g : EF} {gc : CF} {h : SF} {s : Slots} {L : Store} {P : Flw → Store → Prop}
@[simp] theorem sParO_at : sParO i j fc g s L = bnd (fc s L) fun v L1 => bnd (g s L1) fun w L2 => some (.ok (.nx ((s.set i (.own v)).set j (.val w))) L2) := rfl
@[simp] theorem sParV_at : sParV i j f gc s L = bnd (f s L) fun v L1 => bnd (gc s L1) fun w L2 => some (.ok (.nx ((s.set i (.val v)).set j (.own w))) L2) := rfl
@[simp] theorem Ok_seqParO : Ok (sSeq (sParO i j fc g) h s L) P ↔ Ok (fc s L) fun v L1 => Ok (g s L1) fun w L2 => Ok (h ((s.set i (.own v)).set j (.val w)) L2) P := by simp [Ok_seq]
@[simp] theorem Ok_seqParV : Ok (sSeq (sParV i j f gc) h s L) P ↔ Ok (f s L) fun v L1 => Ok (gc s L1) fun w L2 => Ok (h ((s.set i (.val v)).set j (.own w)) L2) P := by simp [Ok_seq]
end
end Fx

set_option Elab.async false
set_option linter.all false
set_option maxRecDepth 100000
set_option maxHeartbeats 1000000
/-! Fx part 26: calls with keywords; items of a dict walked; dict comprehensions. -/
namespace Fx
open PySem L2
/-! ### keywords -/
def KV (X : Cx) (c : FC) (kws : List Keyword) (f : AF) : Prop := PK X kws (tOf (gx X c.kt) (RA (gx X c.kt)) c.r0 c.H0 c.W f)
theorem pk_imp {X : Cx} {kws : List Keyword} {t t' : TA} (h : PK X kws t) (i : ∀ σ H Q, t' σ H Q → t σ H Q) : PK X kws t' := ⟨fun pos pins s σ H Q I q => h.run pos pins s σ H Q I (i σ H Q q)⟩
/-- f(e, .., k = v, ..), all keyword-only parameters told -/
def eCallK (n m : Nat) (g : DS) (fa fk : AF) : EF := fun s L => bnd (fa s L) fun args L1 => bnd (fk s L1) fun kws L2 => if args.length = n ∧ kws.length = m then g (args ++ kws) L2 else none
section
variable {X : Cx} {c : FC} {e : Expr} {es : List Expr} {kws : List Keyword} {f : EF} {fa fk : AF} {nm : Option Str} {p pos kpos apos cpos tpos : Pos}
theorem kv_nil : KV X c [] aNil := by
  refine pk_imp pk_nil fun σ H Q h => ?_
  obtain ⟨ρ, L, s, r, o⟩ := h
  exact o ρ H _ Ext.refl r.st rfl
theorem kv_cons (ha : EV X c e f) (hr : KV X c kws fa) : KV X c (⟨nm, e, kpos⟩ :: kws) (aCons f fa) := by
  refine pk_imp (pk_cons ha hr) fun σ H Q h => ?_
  refine tOf.first (R := RE _) (R' := RA _) (k := fun s x L1 => bnd (fa s L1) fun xs L2 => some (.ok (x :: xs) L2)) h fun ρ L s x L1 ρ1 H1 u r e1 q1 o => ?_
  exact ⟨ρ1, L1, s, r, Ou.bind o fun xs L2 ρ2 H2 us _ e2 t2 q2 o2 => o2 ρ2 H2 _ Ext.refl t2 ⟨_, _, rfl, Rep.mono e2.toStb q1, q2⟩⟩
theorem ev_clN {kt : Bool} {k n N : Nat} {fA : Addr} {fd : FuncData} {ps ks : List Str} {g : DS} {x : Str} (hkt : c.kt = kt) (F : FnOk X.prog X.w X.K X.mg X.base CX0 k fA fd ps (spG (gx X kt) N g)) (hN : n + ks.length = N) (hsf : Safe g) (hr : Room k X.A) (hg : Gl X x) (hm : X.mg x = some (.ref fA)) (hk : PySem.W.keepIn X.K (.ref fA) = true)
    (hb : KBn X.K fd ps n ks (fun us ws => us ++ ws) (fun us ws => us ++ ws)) (ha : AV X c (e :: es) fa) (hkw : KV X c kws fk) (hall : (backToKw pos (keywordEach kws X.env)).all (·.1.isSome) = true := by rfl) (hks : (backToKw pos (keywordEach kws X.env)).filterMap (·.1) = ks := by rfl)
    (hdb : (x == ("__debug__" : Str)) = false := by decide) (he : starEach (e :: es) X.env = (false, eval e X.env) :: starEach es X.env := by rfl)
    (hpl : ((backTo pos (starEach (e :: es) X.env)).any (·.1) || (backToKw pos (keywordEach kws X.env)).any (·.1.isNone)) = false := by rfl) :
    EV X c (.Call (.Name x p) (e :: es) kws pos) (eCallK n ks.length g fa fk) := by
  subst hkt hN
  refine pe_imp (pe_callN F hr hg hm hk hb (E := E0) pass0 ha hkw hall hks hdb he hpl) fun σ H Q q => ?_
  refine tOf.first (R := RA _) (R' := RE _) (k := fun s args L1 => bnd (fk s L1) fun kws L2 => if args.length = n ∧ kws.length = ks.length then g (args ++ kws) L2 else none) q fun ρ L s args L1 ρ1 H1 vs r e1 q1 o => ?_
  refine ⟨ρ1, L1, s, r, Ou.bind (R := RA _) (R' := RE _) o fun kw L2 ρ2 H2 zs _ e2 t2 q2 o2 => ?_⟩
  split at o2
  · rename_i hl
    refine ⟨by rw [← Reps.length q1]; exact hl.1, by rw [← Reps.length q2]; exact hl.2, ρ2, L2, args ++ kw, t2, Reps.append (Reps.mono e2.toStb q1) q2, by rw [List.length_append, hl.1, hl.2], ?_⟩
    match hgg : g (args ++ kw) L2, o2 with
    | some (.ok v L3), o2 => exact o2
    | some (.err y L3), o2 => exact absurd hgg (hsf _ _ _ _)
    | none, o2 => exact o2.elim
  · exact o2.elim
theorem fun_kb {K : PySem.W.Frag} {x qual : Str} {st : Stmt} {fA : Addr} {fd : FuncData} {ps ks : List Str} {n : Nat} (F : Fun K x qual st fA fd)
    (h : ∀ (kV doc pm : Value) (an : Option Addr) (cdv ct : Value) (us ws : List Value), us.length = n → ws.length = ks.length → bindArgs (PySem.W.fnOf x qual (defArgs st) (defBody st) (defScope st) .none kV doc pm an cdv ct) ⟨us, ks.zip ws⟩ = pure (ps.zip (us ++ ws))) : KBn K fd ps n ks (fun us ws => us ++ ws) (fun us ws => us ++ ws) := by
  obtain ⟨oc, od, kV, doc, pm, an, cdv, ct, osl, rfl, lk, hcd⟩ := F.ex
  exact ⟨fun s us ws _ l1 l2 => .of_eq (h kV doc pm an cdv ct us ws l1 l2), fun r1 r2 => r1.append r2⟩
/-! ### for k, v in d.items() -/
def hItems : PV → Option (List PV)
  | .dk ks xs => some ((ks.zip xs).map fun p => .tup [keyP p.1, p.2])
  | _ => none
def iItm (g : EF) : AF := fun s L => bnd (g s L) fun v L1 => ret (hItems v) L1
theorem rep_key {G : Gx} {ρ : List Addr} {H : Hp} (k : Key) : Rep G ρ H (keyP k) (kV k) := by cases k <;> rfl
theorem iv_items {g : EF} {elts : List Expr} {kk : Nat} (h : EV X c e g) (hbase : attributeBase e "items" X.env (eval e X.env) = eval e X.env := by rfl) (hline : (apos.endLine == cpos.line) = true := by rfl) :
    IV X c true (.Tuple elts kk tpos) (.Call (.Attribute e "items" apos) [] [] cpos) (iItm g) := by
  refine pi_imp (pi_items h hbase hline) fun σ H R q => ?_
  refine tOf.first (R := RE _) (R' := RI _ _) (k := fun s v L1 => ret (hItems v) L1) q fun ρ L s v L1 ρ1 H1 u r e1 q1 o => ?_
  obtain ⟨zs, hz, k⟩ := Ou.ret o
  cases v with
  | dk ks xs =>
    cases hz
    obtain ⟨a, ob, l, rfl, hn, ha, hk, hs⟩ := q1
    subst hk
    have hl : xs.length = l.length := by rw [hs.length, List.length_map]
    refine ⟨a, ob, l, rfl, ha, k ρ1 H1 _ Ext.refl r.st fun i ρ2 H2 st => ⟨fun hi => ?_, fun hi => ⟨st.frz _ _ _ hn ha, by simp at hi; omega⟩⟩⟩
    have hi' : i < l.length := by simp at hi; omega
    refine ⟨⟨st.frz _ _ _ hn ha, hi'⟩, fun x H3 hy => ?_⟩
    obtain ⟨T, k', v', hkv, rfl, hT, rfl⟩ := hy
    refine ⟨fun a o h => by rw [upd_ne (ne_of_none h hT)]; exact h, ?_⟩
    have hxi : i < xs.length := by omega
    obtain ⟨w, hw, rw'⟩ := hs.get (i := i) (x := xs[i]) (by simp [hxi])
    rw [List.getElem?_map, hkv] at hw
    cases hw
    have hli : l[i] = (k', v') := by
      have := List.getElem?_eq_some_iff.mp hkv
      exact this.2
    have e3 : ((List.map (·.1) l).zip xs).map (fun p => PV.tup [keyP p.1, p.2]) = ((List.map (·.1) l).zip xs).map fun p => PV.tup [keyP p.1, p.2] := rfl
    refine .inr ⟨rfl, [keyP k', xs[i]], T, [kV k', v'], by simp [hli], rfl, upd_same, ?_⟩
    exact (Reps.cons (rep_key k') (.cons (rw'.mono st) .nil)).mono (Ext.new hT).toStb
  | _ => cases hz
end
/-! ### {k: v for ..} -/
def dLoop (t : TGF) (p : BF) (gk gv : EF) (s : Slots) : List PV → List (Key × PV) → Store → Option (Res Cell)
  | [], acc, L => some (.ok (.dk acc) L)
  | x :: r, acc, L => match t x s with
    | none => none
    | some s1 => bndN (p s1 L) fun b L1 => if b = true then bndN (gk s1 L1) fun y L2 => bndN (gv s1 L2) fun z L3 => match keyOf y with
      | some k => if acc.length < sizeLine then dLoop t p gk gv s r (put acc k z) L3 else none
      | none => none
      else dLoop t p gk gv s r acc L1
def nDComp (fi : AF) (t : TGF) (p : BF) (gk gv : EF) (vs : List Nat) : CF := fun s L => bnd (fi s L) fun xs L1 => dLoop t p gk gv (wipeS s vs) xs [] L1
section
variable {X : Cx} {c : FC} {kx vx tg iter : Expr} {ifs : List Expr} {scope : Scope} {own : List (Str × Nat)} {pos : Pos} {fi : AF} {t : TGF} {ix : List Nat} {p : BF} {gk gv : EF} {raw : Bool}
def DI (G : Gx) (W : WX) (t : TGF) (p : BF) (gk gv : EF) (s : Slots) (ρ1 : List Addr) (σ : St) (H1 : Hp) (Q : VK) (D : Addr) (xs : List PV) (i : Nat) (H : Hp) : Prop :=
  ∃ ρ L acc av, Ext ρ1 ρ H1 H ∧ Rst G ρ L H ∧ D ∉ ρ ∧ H D = some (.dK av) ∧ DRep G ρ H acc av ∧ Ou G (RN G) W ρ1 σ H1 Q (dLoop t p gk gv s (xs.drop i) acc L)
theorem dcomp_read {G : Gx} {vs : List Nat} (hix : ∀ j ∈ ix, j ∈ vs) {σ : St} {H : Hp} {Q : VK} (q : tOf G (RN G) c.r0 c.H0 c.W (nDComp fi t p gk gv vs) σ H Q) :
    tDc (tOf G (RI G raw) c.r0 c.H0 c.W fi) (gOf G raw c.r0 c.H0 t ix) (tOf G RB c.r0 c.H0 (fun _ _ _ _ => False) p) (tOf G (RE G) c.r0 c.H0 (fun _ _ _ _ => False) gk) (tOf G (RE G) c.r0 c.H0 (fun _ _ _ _ => False) gv) vs σ H Q := by
  refine tOf.first (R := RI G raw) (R' := RN G) (k := fun s xs L1 => dLoop t p gk gv (wipeS s vs) xs [] L1) q fun ρ L s xs L1 ρ1 H1 J r e1 q1 o => ?_
  intro D hD
  refine ⟨fun i m H' => m = xs.length - i ∧ i ≤ xs.length ∧ DI G c.W t p gk gv (wipeS s vs) ρ1 σ H1 Q D xs i H', ⟨xs.length, by simp, Nat.zero_le _, ρ1, L1, [], [], Ext.new hD, r.st.new hD, r.st.fresh hD, upd_same, DRep.nil, by simpa using o⟩, ?_⟩
  rintro i m Hi ⟨rfl, hi, ρ2, L2, acc, av, e2, t2, nD, aD, ra, oi⟩
  obtain ⟨y1, y2⟩ := q1 i ρ2 Hi e2.toStb
  by_cases hlt : i < xs.length
  · obtain ⟨go, yl⟩ := y1 hlt
    refine .inr ⟨go, fun H' => DI G c.W t p gk gv (wipeS s vs) ρ1 σ H1 Q D xs (i + 1) H', fun H' h => ⟨xs.length - (i + 1), by omega, rfl, hlt, h⟩, fun x H' hy => ?_⟩
    obtain ⟨k, rx⟩ := yl x H' hy
    have R2 := (r.go e2 t2).go (Ext.same k) (t2.same k)
    have hd : xs.drop i = xs[i] :: xs.drop (i + 1) := by rw [List.drop_eq_getElem_cons hlt]
    rw [hd] at oi
    unfold dLoop at oi
    cases ht : t xs[i] (wipeS s vs) with
    | none => rw [ht] at oi; exact oi.elim
    | some s1 =>
      rw [ht] at oi
      dsimp only at oi
      have e3 : Ext ρ1 ρ2 H1 H' := e2.trans (Ext.same k)
      have aD3 : H' D = some (.dK av) := k _ _ aD
      refine ⟨ρ2, L2, wipeS s vs, xs[i], s1, R2.wipe vs, rx, ht, fun σ1 R3 hl hj => ⟨wipe_eq (by rw [hl, wipe_length]) fun j hn => hj j fun z => hn (hix j z), ρ2, L2, s1, R3, ?_⟩⟩
      cases hp : p s1 L2 with
      | none => rw [hp] at oi; exact oi.elim
      | some a =>
        cases a with
        | err _ _ => rw [hp] at oi; exact oi.elim
        | ok b L3 =>
          rw [hp, bndN_ok] at oi
          intro ρ3 H3 b' e4 t3 hb
          obtain rfl : b = b' := hb
          have aD4 : H3 D = some (.dK av) := e4.keep _ _ nD aD3
          have nD4 : D ∉ ρ3 := e4.notin nD aD3
          have ra4 := (ra.mono (Ext.same (ρ := ρ2) k).toStb).mono e4.toStb
          cases b with
          | false =>
            rw [if_neg Bool.false_ne_true] at oi ⊢
            exact ⟨ρ3, L3, acc, av, e3.trans e4, t3, nD4, aD4, ra4, oi⟩
          | true =>
            rw [if_pos rfl] at oi ⊢
            refine ⟨ρ3, L3, s1, R3.go e4 t3, ?_⟩
            cases hg : gk s1 L3 with
            | none => rw [hg] at oi; exact oi.elim
            | some a =>
              cases a with
              | err _ _ => rw [hg] at oi; exact oi.elim
              | ok y L4 =>
                rw [hg, bndN_ok] at oi
                intro ρ5 H5 yv e5 t5 ry
                have aD5 : H5 D = some (.dK av) := e5.keep _ _ nD4 aD4
                have nD5 : D ∉ ρ5 := e5.notin nD4 aD4
                have ra5 := ra4.mono e5.toStb
                refine ⟨ρ5, L4, s1, (R3.go e4 t3).go e5 t5, ?_⟩
                cases hv : gv s1 L4 with
                | none => rw [hv] at oi; exact oi.elim
                | some a =>
                  cases a with
                  | err _ _ => rw [hv] at oi; exact oi.elim
                  | ok z L5 =>
                    rw [hv, bndN_ok] at oi
                    intro ρ6 H6 zv e6 t6 rz
                    cases hk : keyOf y with
                    | none => rw [hk] at oi; exact oi.elim
                    | some kk =>
                      rw [hk] at oi
                      dsimp only at oi
                      by_cases hz : acc.length < sizeLine
                      · rw [if_pos hz] at oi
                        have aD6 : H6 D = some (.dK av) := e6.keep _ _ nD5 aD5
                        have nD6 : D ∉ ρ6 := e6.notin nD5 aD5
                        have ra6 := ra5.mono e6.toStb
                        refine ⟨av, kk, keyOf_rep ry hk, aD6, by rw [← ra6.length]; exact hz, ?_⟩
                        have e7 := ((e3.trans e4).trans e5).trans e6
                        have st : Stb ρ6 ρ6 H6 (upd H6 D (.dK (putK av kk zv))) := Stb.mut aD6 trivial
                        exact ⟨ρ6, L5, put acc kk z, putK av kk zv, e7.mutNew hD aD6 trivial, t6.mutOut nD6 aD6 trivial, nD6, upd_same, (DRep.put rz ra6).mono st, oi⟩
                      · rw [if_neg hz] at oi; exact oi.elim
  · have hi' : i = xs.length := by omega
    subst hi'
    refine .inl ⟨y2 (Nat.le_refl _), ?_⟩
    rw [List.drop_length] at oi
    exact oi ρ2 Hi _ e2 t2 ⟨D, rfl, nD, hD, av, aD, ra.1, ra.2⟩
theorem nv_dc (hc : X.calm = true) (hN : X.N.Nodup) (hi : IV X c raw tg iter fi) (ok : BlkOk X.N X.env.scope scope own)
    (hg : ∀ (s : Shared) (H : Hp) (C : Addr) (cl : List (Str × Addr)) (fp : List Addr), GV (X.blk s H scope (compEnvC scope cl C X.env) fp) c raw tg t ix)
    (ht : ∀ (s : Shared) (H : Hp) (C : Addr) (cl : List (Str × Addr)) (fp : List Addr), TVs (X.blk s H scope (compEnvC scope cl C X.env) fp) c.nox ifs p)
    (hk : ∀ (s : Shared) (H : Hp) (C : Addr) (cl : List (Str × Addr)) (fp : List Addr), EV (X.blk s H scope (compEnvC scope cl C X.env) fp) c.nox kx gk)
    (he : ∀ (s : Shared) (H : Hp) (C : Addr) (cl : List (Str × Addr)) (fp : List Addr), EV (X.blk s H scope (compEnvC scope cl C X.env) fp) c.nox vx gv)
    (hix : ∀ j ∈ ix, j ∈ own.map (·.2) := by decide) (hs : ∀ x, foldedSetIterable iter X.env x = pure x := by intro _; rfl) :
    NV X c (.DictComp kx vx [⟨tg, iter, ifs, 0⟩] scope pos) (nDComp fi t p gk gv (own.map (·.2))) :=
  pe_imp (pe_dc (g := gOf (gx X c.kt) raw c.r0 c.H0 t ix) (tt := tOf (gx X c.kt) RB c.r0 c.H0 (fun _ _ _ _ => False) p) (tk := tOf (gx X c.kt) (RE (gx X c.kt)) c.r0 c.H0 (fun _ _ _ _ => False) gk) (tv := tOf (gx X c.kt) (RE (gx X c.kt)) c.r0 c.H0 (fun _ _ _ _ => False) gv) hc hN hi ok hg ht hk he hs) fun _ _ _ q => dcomp_read hix q
/-- name = {..} of a line, the name a local -/
theorem ps_setDc {i : Nat} {y : Str} {py spos : Pos} {wi : TI} {g : TG} {tt : TT} {tk tv : TE} (hc : X.calm = true) (hN : X.N.Nodup) (hy : X.N[i]? = some y) (hyl : X.env.scope.names.lookup y = some .local)
    (hsw : swapsWith (.DictComp kx vx [⟨tg, iter, ifs, 0⟩] scope pos) (some (.Name y py)) spos.line X.env = pure true) (hi : PI X tg iter wi) (ok : BlkOk X.N X.env.scope scope own)
    (hg : ∀ (s : Shared) (H : Hp) (C : Addr) (cl : List (Str × Addr)) (fp : List Addr), PG (X.blk s H scope (compEnvC scope cl C X.env) fp) tg g) (ht : ∀ (s : Shared) (H : Hp) (C : Addr) (cl : List (Str × Addr)) (fp : List Addr), PTs (X.blk s H scope (compEnvC scope cl C X.env) fp) ifs tt)
    (hk : ∀ (s : Shared) (H : Hp) (C : Addr) (cl : List (Str × Addr)) (fp : List Addr), PE (X.blk s H scope (compEnvC scope cl C X.env) fp) kx tk)
    (he : ∀ (s : Shared) (H : Hp) (C : Addr) (cl : List (Str × Addr)) (fp : List Addr), PE (X.blk s H scope (compEnvC scope cl C X.env) fp) vx tv) (hs : ∀ x, foldedSetIterable iter X.env x = pure x := by intro _; rfl) :
    PS X (.Assign [.Name y py] (.DictComp kx vx [⟨tg, iter, ifs, 0⟩] scope pos) spos) (tAsg (tDc wi g tt tk tv (own.map (·.2))) (gName i)) := by
  refine ⟨fun pins s σ H D I h => ?_⟩
  rw [exec_Assign_Name_used _ _ _ _ hsw]
  refine wpAny_bind (wpAny_standAt (wpAny_bind ?_))
  show wpAny _ X.A (do let _ ← comprehension (.DictComp kx vx [⟨tg, iter, ifs, 0⟩] scope pos) scope X.env (firstIterPos [⟨tg, iter, ifs, 0⟩] pos) newDict false (eval iter X.env) (some (assign (.Name y py) X.env))) _ _ s
  have h : tDc wi g tt tk tv (own.map (·.2)) σ H (fun x H1 => gName i x σ H1 D.nx) := h
  refine wpAny_bind (thn (dc_core (Qf := fun _ s' => SP X pins D .next s') hc hN I hi ok hg ht hk he hs h fun L C s' m H' I' q hn f => ?_) fun _ s' hq => wpAny_pure (wpAny_pure hq))
  show wpAny _ _ (assign (.Name y py) X.env (.ref L)) _ _ _
  refine wpAny_assign_Name (store_ok2 (v := V.ref L) I' hN hy (.inl hyl) rfl (fun s2 I2 ⟨a, sb, ha⟩ => ?_) (.inr hyl))
  obtain ⟨f0, f1, f2, f3, f4, f5⟩ := f
  have haC : C ≠ a := by
    rcases ha with z | z
    · rw [z]; exact f1
    · exact fun e => f4 y a z e.symm
  refine ⟨m, hn.sameBut sb haC, fun h3 sb3 => ?_⟩
  exact ⟨_, H', I2.turned (t' := s2.toks) (fun b o hb e => (sb3.2 b hb).trans e) f0 f1 f3 f4 f5, q⟩
theorem swd_true {gs : List Comprehension} {py : Pos} {y : Str} {l : Nat} {env : Env} (hk : env.scope.kind = .function) (hy : env.scope.names.lookup y = some .local) (hl : (py.line == pos.line) = true)
    (ha : (scope.names.any fun (n, k) => n == y && (k == .local || k == .cell)) = false) : swapsWith (.DictComp kx vx gs scope pos) (some (.Name y py)) l env = pure true := by
  have ky : env.kindOf y = some .local := hy
  have hb : env.blockKind = .function := by unfold Env.blockKind; rw [hk]; rfl
  unfold swapsWith
  simp only [hb, ky, ha, Expr.pos, hl]
  rfl
theorem es_dc {i : Nat} {y : Str} {py spos : Pos} (hc : X.calm = true) (hN : X.N.Nodup) (hy : X.N[i]? = some y) (hyl : X.env.scope.names.lookup y = some .local)
    (hsw : swapsWith (.DictComp kx vx [⟨tg, iter, ifs, 0⟩] scope pos) (some (.Name y py)) spos.line X.env = pure true) (hi : IV X c raw tg iter fi) (ok : BlkOk X.N X.env.scope scope own)
    (hg : ∀ (s : Shared) (H : Hp) (C : Addr) (cl : List (Str × Addr)) (fp : List Addr), GV (X.blk s H scope (compEnvC scope cl C X.env) fp) c raw tg t ix)
    (ht : ∀ (s : Shared) (H : Hp) (C : Addr) (cl : List (Str × Addr)) (fp : List Addr), TVs (X.blk s H scope (compEnvC scope cl C X.env) fp) c.nox ifs p)
    (hk : ∀ (s : Shared) (H : Hp) (C : Addr) (cl : List (Str × Addr)) (fp : List Addr), EV (X.blk s H scope (compEnvC scope cl C X.env) fp) c.nox kx gk)
    (he : ∀ (s : Shared) (H : Hp) (C : Addr) (cl : List (Str × Addr)) (fp : List Addr), EV (X.blk s H scope (compEnvC scope cl C X.env) fp) c.nox vx gv)
    (hix : ∀ j ∈ ix, j ∈ own.map (·.2) := by decide) (hs : ∀ x, foldedSetIterable iter X.env x = pure x := by intro _; rfl) :
    ES X c (.Assign [.Name y py] (.DictComp kx vx [⟨tg, iter, ifs, 0⟩] scope pos) spos) (sOwn i (nDComp fi t p gk gv (own.map (·.2)))) := by
  refine ps_imp (ps_setDc (g := gOf (gx X c.kt) raw c.r0 c.H0 t ix) (tt := tOf (gx X c.kt) RB c.r0 c.H0 (fun _ _ _ _ => False) p) (tk := tOf (gx X c.kt) (RE (gx X c.kt)) c.r0 c.H0 (fun _ _ _ _ => False) gk) (tv := tOf (gx X c.kt) (RE (gx X c.kt)) c.r0 c.H0 (fun _ _ _ _ => False) gv) hc hN hy hyl hsw hi ok hg ht hk he hs) fun D σ H q => ?_
  refine dcomp_read (c := c) hix ?_
  refine tS.first (R := RN _) (k := fun s v L1 => some (.ok (.nx (s.set i (.own v))) L1)) q fun ρ L s v L1 ρ1 H1 u r e1 t1 q1 o => ?_
  exact o ρ1 H1 _ Stb.refl (r.ownNew e1 t1 q1 i)
end
section
variable {n m : Nat} {g : DS} {fa fk fi : AF} {f gk gv : EF} {t : TGF} {p : BF} {vs : List Nat} {s : Slots} {L : Store}
@[simp] theorem eCallK_at : eCallK n m g fa fk s L = bnd (fa s L) fun args L1 => bnd (fk s L1) fun kws L2 => if args.length = n ∧ kws.length = m then g (args ++ kws) L2 else none := rfl
@[simp] theorem iItm_at : iItm f s L = bnd (f s L) fun v L1 => ret (hItems v) L1 := rfl
@[simp] theorem nDComp_at : nDComp fi t p gk gv vs s L = bnd (fi s L) fun xs L1 => dLoop t p gk gv (wipeS s vs) xs [] L1 := rfl
@[simp] theorem hItems_dk {ks : List Key} {xs : List PV} : hItems (.dk ks xs) = some ((ks.zip xs).map fun p => .tup [keyP p.1, p.2]) := rfl
end
end Fx

set_option Elab.async false
set_option linter.all false
set_option maxRecDepth 100000
set_option maxHeartbeats 1000000
/-! Fx part 27: list comprehensions of two clauses. -/
namespace Fx
open PySem L2
def noOwn (s : Slots) : Bool := s.all fun x => match x with
  | .own _ => false
  | _ => true
theorem noOwn_at {s : Slots} (h : noOwn s = true) {i : Nat} {c : Cell} : s[i]? ≠ some (.own c) := fun e => by
  have := List.all_eq_true.mp h _ (List.mem_of_getElem? e)
  cases this
theorem RR.stb {G : Gx} {r0 ρ ρ' : List Addr} {H0 H H' : Hp} {L L' : Store} {s : Slots} {σ : St} (R : RR G r0 H0 ρ L s σ H) (n : noOwn s = true) (st : Stb ρ ρ' H H') (t : Rst G ρ' L' H') (x : Ext r0 ρ' H0 H') : RR G r0 H0 ρ' L' s σ H' := by
  obtain ⟨β, q⟩ := R.sl
  refine ⟨t, ⟨β, q.len, fun j w e => ?_, fun j d e => absurd e (noOwn_at n), fun j k d d' e => absurd e (noOwn_at n)⟩, x⟩
  obtain ⟨v, h1, h2⟩ := q.val j w e
  exact ⟨v, h1, h2.mono st⟩
def c2Loop (t : TGF) (p : BF) (fi1 : AF) (t1 : TGF) (p1 : BF) (g : EF) (s : Slots) (vs1 : List Nat) : List PV → List PV → Store → Option (Res Cell)
  | [], acc, L => some (.ok (.lst acc) L)
  | x :: r, acc, L => match t x s with
    | none => none
    | some s1 => if noOwn s1 = true then bndN (p s1 L) fun b L1 => if b = true then bndN (fi1 s1 L1) fun ys L2 => bndN (cLoop t1 p1 g (wipeS s1 vs1) ys acc L2) fun cc L3 => match cc with
        | .lst acc' => c2Loop t p fi1 t1 p1 g s vs1 r acc' L3
        | _ => none
        else c2Loop t p fi1 t1 p1 g s vs1 r acc L1 else none
def nComp2 (fi : AF) (t : TGF) (p : BF) (fi1 : AF) (t1 : TGF) (p1 : BF) (g : EF) (vs vs1 : List Nat) : CF := fun s L => bnd (fi s L) fun xs L1 => c2Loop t p fi1 t1 p1 g (wipeS s vs) vs1 xs [] L1
section
variable {X : Cx} {c : FC} {elt tg iter tg1 iter1 : Expr} {ifs ifs1 : List Expr} {scope : Scope} {own : List (Str × Nat)} {pos : Pos} {fi fi1 : AF} {t t1 : TGF} {ix ix1 vs1 : List Nat} {p p1 : BF} {g : EF} {raw raw1 : Bool}
def C2I (G : Gx) (W : WX) (t : TGF) (p : BF) (fi1 : AF) (t1 : TGF) (p1 : BF) (g : EF) (s : Slots) (vs1 : List Nat) (ρ1 : List Addr) (σ : St) (H1 : Hp) (Q : VK) (D : Addr) (xs : List PV) (i : Nat) (H : Hp) : Prop :=
  ∃ ρ L acc av, Ext ρ1 ρ H1 H ∧ Rst G ρ L H ∧ D ∉ ρ ∧ H D = some (.lst av) ∧ Reps G ρ H acc av ∧ Ou G (RN G) W ρ1 σ H1 Q (c2Loop t p fi1 t1 p1 g s vs1 (xs.drop i) acc L)
/-- within the second clause -/
def C2J (G : Gx) (W : WX) (K : Cell → Store → Option (Res Cell)) (t1 : TGF) (p1 : BF) (g : EF) (s : Slots) (ρ1 : List Addr) (σ : St) (H1 : Hp) (Q : VK) (D : Addr) (ρ4 : List Addr) (H4 : Hp) (ys : List PV) (j : Nat) (H : Hp) : Prop :=
  ∃ ρ L acc av, Ext ρ1 ρ H1 H ∧ Stb ρ4 ρ H4 H ∧ Rst G ρ L H ∧ D ∉ ρ ∧ H D = some (.lst av) ∧ Reps G ρ H acc av ∧ Ou G (RN G) W ρ1 σ H1 Q (bndN (cLoop t1 p1 g s (ys.drop j) acc L) K)
theorem comp2_read {G : Gx} {vs : List Nat} (hix : ∀ j ∈ ix, j ∈ vs) (hix1 : ∀ j ∈ ix1, j ∈ vs1) {σ : St} {H : Hp} {Q : VK} (q : tOf G (RN G) c.r0 c.H0 c.W (nComp2 fi t p fi1 t1 p1 g vs vs1) σ H Q) :
    tLc2 (tOf G (RI G raw) c.r0 c.H0 c.W fi) (gOf G raw c.r0 c.H0 t ix) (tOf G RB c.r0 c.H0 (fun _ _ _ _ => False) p) (tOf G (RI G raw1) c.r0 c.H0 (fun _ _ _ _ => False) fi1) (gOf G raw1 c.r0 c.H0 t1 ix1) (tOf G RB c.r0 c.H0 (fun _ _ _ _ => False) p1) (tOf G (RE G) c.r0 c.H0 (fun _ _ _ _ => False) g) vs vs1 σ H Q := by
  refine tOf.first (R := RI G raw) (R' := RN G) (k := fun s xs L1 => c2Loop t p fi1 t1 p1 g (wipeS s vs) vs1 xs [] L1) q fun ρ L s xs L1 ρ1 H1 J r e1 q1 o => ?_
  intro D hD
  refine ⟨fun i m H' => m = xs.length - i ∧ i ≤ xs.length ∧ C2I G c.W t p fi1 t1 p1 g (wipeS s vs) vs1 ρ1 σ H1 Q D xs i H', ⟨xs.length, by simp, Nat.zero_le _, ρ1, L1, [], [], Ext.new hD, r.st.new hD, r.st.fresh hD, upd_same, .nil, by simpa using o⟩, ?_⟩
  rintro i m Hi ⟨rfl, hi, ρ2, L2, acc, av, e2, t2, nD, aD, ra, oi⟩
  obtain ⟨y1, y2⟩ := q1 i ρ2 Hi e2.toStb
  by_cases hlt : i < xs.length
  · obtain ⟨go, yl⟩ := y1 hlt
    refine .inr ⟨go, fun H' => C2I G c.W t p fi1 t1 p1 g (wipeS s vs) vs1 ρ1 σ H1 Q D xs (i + 1) H', fun H' h => ⟨xs.length - (i + 1), by omega, rfl, hlt, h⟩, fun x H' hy => ?_⟩
    obtain ⟨k, rx⟩ := yl x H' hy
    have R2 := (r.go e2 t2).go (Ext.same k) (t2.same k)
    have hd : xs.drop i = xs[i] :: xs.drop (i + 1) := by rw [List.drop_eq_getElem_cons hlt]
    rw [hd] at oi
    unfold c2Loop at oi
    cases ht : t xs[i] (wipeS s vs) with
    | none => rw [ht] at oi; exact oi.elim
    | some s1 =>
      rw [ht] at oi
      dsimp only at oi
      by_cases hno : noOwn s1 = true
      rotate_left
      · rw [if_neg hno] at oi; exact oi.elim
      rw [if_pos hno] at oi
      have e3 : Ext ρ1 ρ2 H1 H' := e2.trans (Ext.same k)
      have aD3 : H' D = some (.lst av) := k _ _ aD
      refine ⟨ρ2, L2, wipeS s vs, xs[i], s1, R2.wipe vs, rx, ht, fun σ1 R3 hl hj => ⟨wipe_eq (by rw [hl, wipe_length]) fun j hn => hj j fun z => hn (hix j z), ρ2, L2, s1, R3, ?_⟩⟩
      cases hp : p s1 L2 with
      | none => rw [hp] at oi; exact oi.elim
      | some a =>
        cases a with
        | err _ _ => rw [hp] at oi; exact oi.elim
        | ok b L3 =>
          rw [hp, bndN_ok] at oi
          intro ρ3 H3 b' e4 t3 hb
          obtain rfl : b = b' := hb
          have aD4 : H3 D = some (.lst av) := e4.keep _ _ nD aD3
          have nD4 : D ∉ ρ3 := e4.notin nD aD3
          have ra4 := (ra.mono (Ext.same (ρ := ρ2) k).toStb).mono e4.toStb
          cases b with
          | false =>
            rw [if_neg Bool.false_ne_true] at oi ⊢
            exact ⟨ρ3, L3, acc, av, e3.trans e4, t3, nD4, aD4, ra4, oi⟩
          | true =>
            rw [if_pos rfl] at oi ⊢
            refine ⟨ρ3, L3, s1, R3.go e4 t3, ?_⟩
            cases hg : fi1 s1 L3 with
            | none => rw [hg] at oi; exact oi.elim
            | some a =>
              cases a with
              | err _ _ => rw [hg] at oi; exact oi.elim
              | ok ys L4 =>
                rw [hg, bndN_ok] at oi
                intro ρ4 H4 J1 e5 t4 q4
                have aD5 : H4 D = some (.lst av) := e5.keep _ _ nD4 aD4
                have nD5 : D ∉ ρ4 := e5.notin nD4 aD4
                have ra5 := ra4.mono e5.toStb
                have R4 := (R3.go e4 t3).go e5 t4
                have e6 := (e3.trans e4).trans e5
                refine ⟨fun j m H' => m = ys.length - j ∧ j ≤ ys.length ∧ C2J G c.W (fun cc L3 => match cc with
                    | .lst acc' => c2Loop t p fi1 t1 p1 g (wipeS s vs) vs1 (xs.drop (i + 1)) acc' L3
                    | _ => none) t1 p1 g (wipeS s1 vs1) ρ1 σ H1 Q D ρ4 H4 ys j H', ⟨ys.length, by simp, Nat.zero_le _, ρ4, L4, acc, av, e6, Stb.refl, t4, nD5, aD5, ra5, by simpa using oi⟩, ?_⟩
                rintro j m Hj ⟨rfl, hjl, ρ5, L5, acc, av, e7, st7, t5, nD6, aD6, ra6, oj⟩
                obtain ⟨z1, z2⟩ := q4 j ρ5 Hj st7
                by_cases hjt : j < ys.length
                · obtain ⟨go1, yl1⟩ := z1 hjt
                  refine .inr ⟨go1, fun H' => C2J G c.W _ t1 p1 g (wipeS s1 vs1) ρ1 σ H1 Q D ρ4 H4 ys (j + 1) H', fun H' h => ⟨ys.length - (j + 1), by omega, rfl, hjt, h⟩, fun x H6 hy1 => ?_⟩
                  obtain ⟨k1, rx1⟩ := yl1 x H6 hy1
                  have e8 : Ext ρ1 ρ5 H1 H6 := e7.trans (Ext.same k1)
                  have st8 : Stb ρ4 ρ5 H4 H6 := st7.trans (Ext.same k1).toStb
                  have t6 := t5.same k1
                  have R6 := R4.stb hno st8 t6 (r.ext.trans e8)
                  have hd1 : ys.drop j = ys[j] :: ys.drop (j + 1) := by rw [List.drop_eq_getElem_cons hjt]
                  rw [hd1] at oj
                  unfold cLoop at oj
                  cases ht1 : t1 ys[j] (wipeS s1 vs1) with
                  | none => rw [ht1] at oj; exact oj.elim
                  | some s2 =>
                    rw [ht1] at oj
                    dsimp only at oj
                    have aD7 : H6 D = some (.lst av) := k1 _ _ aD6
                    refine ⟨ρ5, L5, wipeS s1 vs1, ys[j], s2, R6.wipe vs1, rx1, ht1, fun σ2 R7 hl2 hj2 => ⟨wipe_eq (by rw [hl2, wipe_length]) fun l hn => hj2 l fun z => hn (hix1 l z), ρ5, L5, s2, R7, ?_⟩⟩
                    cases hp1 : p1 s2 L5 with
                    | none => rw [hp1] at oj; exact oj.elim
                    | some a =>
                      cases a with
                      | err _ _ => rw [hp1] at oj; exact oj.elim
                      | ok b L6 =>
                        rw [hp1, bndN_ok] at oj
                        intro ρ6 H7 b' e9 t7 hb
                        obtain rfl : b = b' := hb
                        have aD8 : H7 D = some (.lst av) := e9.keep _ _ nD6 aD7
                        have nD8 : D ∉ ρ6 := e9.notin nD6 aD7
                        have ra8 := (ra6.mono (Ext.same (ρ := ρ5) k1).toStb).mono e9.toStb
                        cases b with
                        | false =>
                          rw [if_neg Bool.false_ne_true] at oj ⊢
                          exact ⟨ρ6, L6, acc, av, e8.trans e9, st8.trans e9.toStb, t7, nD8, aD8, ra8, oj⟩
                        | true =>
                          rw [if_pos rfl] at oj ⊢
                          refine ⟨ρ6, L6, s2, R7.go e9 t7, ?_⟩
                          cases hg1 : g s2 L6 with
                          | none => rw [hg1] at oj; exact oj.elim
                          | some a =>
                            cases a with
                            | err _ _ => rw [hg1] at oj; exact oj.elim
                            | ok y L7 =>
                              rw [hg1, bndN_ok] at oj
                              intro ρ7 H8 yv e10 t8 ry
                              by_cases hz : acc.length < sizeLine
                              · rw [if_pos hz] at oj
                                have aD9 : H8 D = some (.lst av) := e10.keep _ _ nD8 aD8
                                have nD9 : D ∉ ρ7 := e10.notin nD8 aD8
                                have ra9 := ra8.mono e10.toStb
                                refine ⟨av, aD9, by rw [← ra9.length]; exact hz, ?_⟩
                                have e11 := (e8.trans e9).trans e10
                                have st : Stb ρ7 ρ7 H8 (upd H8 D (.lst (av ++ [yv]))) := Stb.mut aD9 trivial
                                exact ⟨ρ7, L7, acc ++ [y], av ++ [yv], e11.mutNew hD aD9 trivial, ((st8.trans e9.toStb).trans e10.toStb).trans st, t8.mutOut nD9 aD9 trivial, nD9, upd_same, (ra9.append (.cons ry .nil)).mono st, oj⟩
                              · rw [if_neg hz] at oj; exact oj.elim
                · have hj' : j = ys.length := by omega
                  subst hj'
                  refine .inl ⟨z2 (Nat.le_refl _), ?_⟩
                  rw [List.drop_length] at oj
                  exact ⟨ρ5, L5, acc, av, e7, t5, nD6, aD6, ra6, oj⟩
  · have hi' : i = xs.length := by omega
    subst hi'
    refine .inl ⟨y2 (Nat.le_refl _), ?_⟩
    rw [List.drop_length] at oi
    exact oi ρ2 Hi _ e2 t2 ⟨D, rfl, nD, hD, av, aD, ra⟩
section
variable (hc : X.calm = true) (hN : X.N.Nodup) (hi : IV X c raw tg iter fi) (ok : BlkOk X.N X.env.scope scope own) (hv : ∀ i ∈ vs1, i ∈ own.map (·.2))
    (hg : ∀ (s : Shared) (H : Hp) (C : Addr) (cl : List (Str × Addr)) (fp : List Addr), GV (X.blk s H scope (compEnvC scope cl C X.env) fp) c raw tg t ix)
    (ht : ∀ (s : Shared) (H : Hp) (C : Addr) (cl : List (Str × Addr)) (fp : List Addr), TVs (X.blk s H scope (compEnvC scope cl C X.env) fp) c.nox ifs p)
    (hi1 : ∀ (s : Shared) (H : Hp) (C : Addr) (cl : List (Str × Addr)) (fp : List Addr), IV (X.blk s H scope (compEnvC scope cl C X.env) fp) c.nox raw1 tg1 iter1 fi1)
    (hg1 : ∀ (s : Shared) (H : Hp) (C : Addr) (cl : List (Str × Addr)) (fp : List Addr), GV (X.blk s H scope (compEnvC scope cl C X.env) fp) c raw1 tg1 t1 ix1)
    (ht1 : ∀ (s : Shared) (H : Hp) (C : Addr) (cl : List (Str × Addr)) (fp : List Addr), TVs (X.blk s H scope (compEnvC scope cl C X.env) fp) c.nox ifs1 p1)
    (he : ∀ (s : Shared) (H : Hp) (C : Addr) (cl : List (Str × Addr)) (fp : List Addr), EV (X.blk s H scope (compEnvC scope cl C X.env) fp) c.nox elt g)
include hc hN hi ok hv hg ht hi1 hg1 ht1 he
theorem nv_lc2 (hix : ∀ j ∈ ix, j ∈ own.map (·.2) := by decide) (hix1 : ∀ j ∈ ix1, j ∈ vs1 := by decide) (hs : ∀ x, foldedSetIterable iter X.env x = pure x := by intro _; rfl) (hs1 : ∀ env x, foldedSetIterable iter1 env x = pure x := by intro _ _; rfl) :
    NV X c (.ListComp elt [⟨tg, iter, ifs, 0⟩, ⟨tg1, iter1, ifs1, 0⟩] scope pos) (nComp2 fi t p fi1 t1 p1 g (own.map (·.2)) vs1) :=
  pe_imp (pe_lc2 (g := gOf (gx X c.kt) raw c.r0 c.H0 t ix) (tt := tOf (gx X c.kt) RB c.r0 c.H0 (fun _ _ _ _ => False) p) (wi1 := tOf (gx X c.kt) (RI (gx X c.kt) raw1) c.r0 c.H0 (fun _ _ _ _ => False) fi1) (g1 := gOf (gx X c.kt) raw1 c.r0 c.H0 t1 ix1) (tt1 := tOf (gx X c.kt) RB c.r0 c.H0 (fun _ _ _ _ => False) p1) (te := tOf (gx X c.kt) (RE (gx X c.kt)) c.r0 c.H0 (fun _ _ _ _ => False) g) hc hN hi ok hv hg ht hi1 hg1 ht1 he hs hs1) fun _ _ _ q => comp2_read hix hix1 q
theorem es_lc2 {i : Nat} {y : Str} {py spos : Pos} (hy : X.N[i]? = some y) (hyl : X.env.scope.names.lookup y = some .local)
    (hsw : swapsWith (.ListComp elt [⟨tg, iter, ifs, 0⟩, ⟨tg1, iter1, ifs1, 0⟩] scope pos) (some (.Name y py)) spos.line X.env = pure true)
    (hix : ∀ j ∈ ix, j ∈ own.map (·.2) := by decide) (hix1 : ∀ j ∈ ix1, j ∈ vs1 := by decide) (hs : ∀ x, foldedSetIterable iter X.env x = pure x := by intro _; rfl) (hs1 : ∀ env x, foldedSetIterable iter1 env x = pure x := by intro _ _; rfl) :
    ES X c (.Assign [.Name y py] (.ListComp elt [⟨tg, iter, ifs, 0⟩, ⟨tg1, iter1, ifs1, 0⟩] scope pos) spos) (sOwn i (nComp2 fi t p fi1 t1 p1 g (own.map (·.2)) vs1)) := by
  refine ps_imp (ps_setLc2 (g := gOf (gx X c.kt) raw c.r0 c.H0 t ix) (tt := tOf (gx X c.kt) RB c.r0 c.H0 (fun _ _ _ _ => False) p) (wi1 := tOf (gx X c.kt) (RI (gx X c.kt) raw1) c.r0 c.H0 (fun _ _ _ _ => False) fi1) (g1 := gOf (gx X c.kt) raw1 c.r0 c.H0 t1 ix1) (tt1 := tOf (gx X c.kt) RB c.r0 c.H0 (fun _ _ _ _ => False) p1) (te := tOf (gx X c.kt) (RE (gx X c.kt)) c.r0 c.H0 (fun _ _ _ _ => False) g) hc hN hy hyl hsw hi ok hv hg ht hi1 hg1 ht1 he hs hs1) fun D σ H q => ?_
  refine comp2_read (c := c) hix hix1 ?_
  refine tS.first (R := RN _) (k := fun s v L1 => some (.ok (.nx (s.set i (.own v))) L1)) q fun ρ L s v L1 ρ1 H1 u r e1 t1 q1 o => ?_
  exact o ρ1 H1 _ Stb.refl (r.ownNew e1 t1 q1 i)
end
end
end Fx

set_option Elab.async false
set_option linter.all false
set_option maxRecDepth 100000
set_option maxHeartbeats 1000000
/-! Fx part 28: sorted(d) of a dict with pairs of ints for keys. -/
namespace FT
open PySem PySem.Spec PyProof.Rows L2 HT
def pk (p : Int × Int) : List Key := [Sum.inl p.1, Sum.inl p.2]
def rSortedK : List V → Hp → VK → Prop := fun vs H Q => ∃ (a : Addr) (kvs : List (List Key × V)) (ks : List (Int × Int)), vs = [V.ref a] ∧ Rd H a (.dT kvs) ∧ kvs.map (·.1) = ks.map pk ∧ ks.length ≤ sizeLine ∧
  ∀ (zs : List (Addr × (Int × Int))) p, (∀ z ∈ zs, H z.1 = some (.tup [.int z.2.1, .int z.2.2])) → (zs.map (·.2)).Perm ks → (zs.map (·.2)).Pairwise leP → H p = none → Q (.ref p) (upd H p (.lst (zs.map fun z => V.ref z.1)))
section
variable {X : Cx}
theorem kt_zip {H : Hp} : ∀ {kvs : List (List Key × V)} {ks : List (Int × Int)} {xs : List (List Key × Addr × Value)}, KT H kvs xs → kvs.map (·.1) = ks.map pk → ∀ p ∈ (xs.map fun x => x.2.1).zip ks, H p.1 = some (.tup [.int p.2.1, .int p.2.2])
  | _, [], _, .nil, _, p, hp => by simp at hp
  | _, _ :: _, _, .nil, e, p, hp => by simp at hp
  | _, [], _, .cons h t, e, p, hp => by simp at hp
  | _, k :: ks, _, .cons h t, e, p, hp => by
    rw [List.map_cons, List.map_cons] at e
    rw [List.map_cons, List.zip_cons_cons] at hp
    rcases List.mem_cons.mp hp with q | q
    · subst q
      have e1 := (List.cons.inj e).1
      have := h.2
      rw [e1] at this
      exact this.1
    · exact kt_zip t (List.cons.inj e).2 p q
open Classical in
theorem cr_sortedK (hc : X.calm = true) : CallR X (.builtin "sorted") rSortedK := by
  intro pins s σ H vs us Q I r h
  obtain ⟨a, kvs, ks, rfl, hd, hks, hkz, q⟩ := h
  obtain ⟨u, rfl, rx⟩ := vals1 r
  obtain rfl : u = Value.ref a := rx
  obtain ⟨z, hs, xs, pr, o, es, ep, ho, hx, hdt, he, hn⟩ := (show ObjOk X.prog X.w H s.heap a (.dT kvs) from hd.ok I.hok)
  have l1 : es.size = xs.length := size_of_entries he
  have l2 : kvs.length = xs.length := Paired.length pr
  have l3 : kvs.length = ks.length := by simpa using congrArg List.length hks
  have hzp := kt_zip pr hks
  generalize hbs : (xs.map fun x => x.2.1) = bs at hzp
  have hlen : bs.length = ks.length := by rw [← hbs, List.length_map]; omega
  let k : Value → Int × Int := fun u => if h : ∃ p : Int × Int, Srt.IsPair s.heap u p.1 p.2 then h.choose else (0, 0)
  have isp : ∀ p ∈ bs.zip ks, Srt.IsPair s.heap (.ref p.1) p.2.1 p.2.2 := fun p hm => by
    obtain ⟨_, its2, r2, o, ho, hc, n, hd⟩ := I.hok _ _ (hzp p hm)
    obtain ⟨u1, u2, rfl, ri, rj⟩ := vals2 r2
    obtain ⟨t1, rfl⟩ := ri
    obtain ⟨t2, rfl⟩ := rj
    exact ⟨p.1, o, t1, t2, n, rfl, ho, hc, hd⟩
  have uniq : ∀ (u : Value) (p q : Int × Int), Srt.IsPair s.heap u p.1 p.2 → Srt.IsPair s.heap u q.1 q.2 → p = q := fun u p q h1 h2 => by
    obtain ⟨t, o, t1, t2, n, rfl, ho, hc, hd⟩ := h1
    obtain ⟨t', o', t1', t2', n', e, ho', hc', hd'⟩ := h2
    cases e
    rw [ho] at ho'
    cases ho'
    rw [hd] at hd'
    injection hd' with e1 e2
    have e3 := congrArg Array.toList e1
    simp at e3
    exact Prod.ext e3.1.1 e3.2.1
  have hk : ∀ p ∈ bs.zip ks, k (.ref p.1) = p.2 := fun p hm => by
    have ex : ∃ q : Int × Int, Srt.IsPair s.heap (.ref p.1) q.1 q.2 := ⟨p.2, isp p hm⟩
    show (if h : ∃ q : Int × Int, Srt.IsPair s.heap (.ref p.1) q.1 q.2 then h.choose else (0, 0)) = _
    rw [dif_pos ex]
    exact uniq _ _ _ ex.choose_spec (isp p hm)
  have hzip := zip_map_eq (fun t => t) (fun t => k (.ref t)) hlen hk
  refine Calls.call_function_entry PyProof.Rows.kind_sorted PyProof.Rows.plain_sorted PyProof.Rows.entry_sorted (PyProof.Rows.args_sorted1 _) ?_
  unfold Builtin.«sorted»
  refine wpAny_bind (m := checkCount "sorted" 1 1 _) (wpAny_pure ?_)
  refine wpAny_bind (PySem.W.kdu_collect (A := X.A.in1) (kdl_raw hs hx hdt) (I.ok.hd hc) ho (by omega) fun h' tk acc kp it => ?_)
  have ea : acc.toList = bs.map Value.ref := by
    have hl : acc.toList.length = xs.length := by rw [Array.length_toList, it.1]; exact l1
    rw [← hbs, List.map_map]
    apply List.ext_getElem?
    intro j
    rw [List.getElem?_map]
    cases hj : acc.toList[j]? with
    | none =>
      have h1 := List.getElem?_eq_none_iff.mp hj
      rw [List.getElem?_eq_none (by omega)]
      all_goals rfl
    | some v =>
      obtain ⟨en, hen, hv⟩ := it.2 j v (by rw [← Array.getElem?_toList]; exact hj)
      have qe := entry_at he j
      rw [hen] at qe
      cases hb : xs[j]? with
      | none =>
        rw [hb] at qe
        exact nomatch (show some en = none from qe)
      | some b =>
        rw [hb] at qe
        have e2 : en = entryOfKey (tupleKind (mixKind X.prog X.w)) b := Option.some.inj qe
        rw [hv, e2]
        all_goals rfl
  have I1 : Inv X pins σ H { s with heap := h', toks := tk } := I.kept kp
  have hal : acc.toList.length ≤ sizeLine := by rw [ea, List.length_map]; omega
  refine wpAny_bind (wpAny_newList ?_ hal)
  have hoL : (h'.push (seqObj "list" acc.toList.toArray 0)).get? h'.objs.size = some (seqObj "list" acc.toList.toArray 0) := Heap.get?_push_size _ rfl
  show wpAny _ _ _ _ _ { s with heap := h'.push (seqObj "list" acc.toList.toArray 0), toks := tk }
  have isv : ∀ v ∈ acc.toList, Srt.IsPair s.heap v (k v).1 (k v).2 := fun v hv => by
    rw [ea] at hv
    obtain ⟨t, ht, rfl⟩ := List.mem_map.mp hv
    have hm : (t, k (.ref t)) ∈ bs.zip ks := by rw [hzip]; exact List.mem_map.mpr ⟨t, ht, rfl⟩
    exact isp _ hm
  have old : ∀ b o, s.heap.get? b = some o → (h'.push (seqObj "list" acc.toList.toArray 0)).get? b = some o := fun b o e => Heap.get?_push_of_some _ (kp b o e)
  refine wpAny_bind (wpAny_holding (wpAny_call_entry PyProof.Rows.slot_list_sort ⟨_, hoL, rfl⟩ PyProof.Rows.entry_list_sort
    (SrtO.list_sort_ord (s := { s with heap := h'.push (seqObj "list" acc.toList.toArray 0), toks := tk }) (SrtO.swo_lex k) hoL hal (fun h2 => ?_) fun out h1 h2 => ⟨_, rfl, ?_⟩) (PyProof.Rows.args_list_sort _)))
  · refine SrtO.pairs_sortableO (by omega) (fun v hm => (isv v hm).keeps fun b o e _ => old b o e) fun o e => ?_
    have e' : some o = some (seqObj "list" acc.toList.toArray 0) := e.symm.trans hoL
    cases e'
    intro c
    exact absurd (Value.type.inj c) (by decide)
  · have h3 : ∀ u ∈ out, u = Value.ref (adr u) := fun u hu => by
      have := h2.perm.mem_iff.mp hu
      rw [ea] at this
      obtain ⟨t, _, rfl⟩ := List.mem_map.mp this
      rfl
    have eo : out = (out.map adr).map Value.ref := by
      rw [List.map_map]
      conv => lhs; rw [← List.map_id out]
      exact List.map_congr_left h3
    have pa : (out.map adr).Perm bs := by
      have := h2.perm.map adr
      rw [ea, List.map_map] at this
      simpa [Function.comp_def, adr] using this
    obtain ⟨n, hn⟩ := PyProof.Rows.sortedHeap_at (vs := acc.toList) (out := out.toArray) hoL
    have pz : ((out.map adr).map fun t => (t, k (.ref t))).Perm (bs.zip ks) := by rw [hzip]; exact pa.map _
    refine wpAny_pure ⟨_, rfl, .ref h'.objs.size, upd H h'.objs.size (.lst (((out.map adr).map fun t => (t, k (.ref t))).map fun z => V.ref z.1)), I1.laid (t' := tk) (fun b u e => ?_) (Nat.le_refl _) ⟨?_, out, n, ?_, hn⟩, rfl, q _ _ (fun z hz => hzp z (pz.mem_iff.mp hz)) ?_ ?_ (I1.hok.fresh (Nat.le_refl _))⟩
    · have hb : b < h'.objs.size := Heap.lt_size e
      rw [PyProof.Rows.sortedHeap_old (Nat.ne_of_lt hb) (by rw [size_push']; exact Nat.lt_succ_of_lt hb)]
      exact Heap.get?_push_of_some _ e
    · rw [List.length_map, List.length_map, List.length_map, h2.perm.length_eq]
      exact hal
    · rw [List.map_map]
      have e2 : ((fun z : Addr × (Int × Int) => V.ref z.1) ∘ fun t => (t, k (.ref t))) = V.ref := rfl
      rw [e2]
      conv => rhs; rw [eo]
      generalize out.map adr = l
      induction l with
      | nil => exact .nil
      | cons x l ih => exact .cons rfl ih
    · have := pz.map (·.2)
      rwa [List.map_snd_zip (by omega)] at this
    · rw [List.map_map, List.map_map, List.pairwise_map]
      refine h1.imp_of_mem fun {x y} hx hy hxy => ?_
      show leP (k (.ref (adr x))) (k (.ref (adr y)))
      rw [← h3 x hx, ← h3 y hy]
      have := SrtO.lexB_no.mp hxy
      unfold leP
      omega
end
end FT
namespace Fx
open PySem L2
def pairKeys : List (List Key) → Option (List (Int × Int))
  | [] => some []
  | [.inl i, .inl j] :: r => (pairKeys r).map ((i, j) :: ·)
  | _ :: _ => none
theorem pairKeys_some : ∀ {xs : List (List Key)} {ks : List (Int × Int)}, pairKeys xs = some ks → xs = ks.map FT.pk
  | [], ks, h => by cases h; rfl
  | [.inl i, .inl j] :: xs, ks, h => by
    have h : (pairKeys xs).map ((i, j) :: ·) = some ks := h
    cases q : pairKeys xs with
    | none => rw [q] at h; cases h
    | some l =>
      rw [q] at h
      cases h
      rw [pairKeys_some q]
      rfl
  | [] :: xs, ks, h => by cases h
  | [.inl _] :: xs, ks, h => by cases h
  | [.inr _] :: xs, ks, h => by cases h
  | [.inl _, .inr _] :: xs, ks, h => by cases h
  | [.inr _, _] :: xs, ks, h => by cases h
  | (.inl _ :: .inl _ :: _ :: _) :: xs, ks, h => by cases h
  | (.inl _ :: .inr _ :: _ :: _) :: xs, ks, h => by cases h
  | (.inr _ :: _ :: _ :: _) :: xs, ks, h => by cases h
theorem pairKeys_map : ∀ ks : List (Int × Int), pairKeys (ks.map FT.pk) = some ks
  | [] => rfl
  | k :: ks => by
    show (pairKeys (ks.map FT.pk)).map _ = _
    rw [pairKeys_map ks]
    rfl
/-- sorted(d), d a dict with pairs of ints for keys -/
def nSortedK (L : Store) (x : Hd) : Option Cell := match view L x with
  | some (.dt kvs) => (pairKeys (kvs.map (·.1))).bind fun ks => if ks.length ≤ sizeLine then some (.lst ((sortPr ks).map pvPair)) else none
  | _ => none
theorem reps_of_mem0 {G : Gx} {ρ : List Addr} {H : Hp} (hk : G.kt = false) : ∀ zs : List (Addr × (Int × Int)), (∀ z ∈ zs, H z.1 = some (.tup [.int z.2.1, .int z.2.2])) → Reps G ρ H ((zs.map (·.2)).map pvPair) (zs.map fun z => V.ref z.1)
  | [], _ => .nil
  | z :: zs, h => .cons ⟨z.1, _, rfl, .inl ⟨by rw [hk]; rfl, h z (by simp)⟩, .cons rfl (.cons rfl .nil)⟩ (reps_of_mem0 hk zs fun y hy => h y (by simp [hy]))
theorem cn_sortedK {G : Gx} (hkt : G.kt = false) : CalN G nSortedK FT.rSortedK := by
  intro ρ L H x v z Q t hx hz k
  unfold nSortedK at hz
  cases hw : view L x with
  | none => rw [hw] at hz; cases hz
  | some vw =>
    rw [hw] at hz
    have hr := view_rep t hx hw
    cases vw with
    | dt kvs =>
      dsimp only at hz
      cases hp : pairKeys (kvs.map (·.1)) with
      | none => rw [hp] at hz; cases hz
      | some ks =>
        rw [hp] at hz
        dsimp only [Option.bind] at hz
        split at hz
        · rename_i hkz
          cases hz
          obtain ⟨a, l, rfl, ha, hl⟩ := hr
          refine ⟨a, l, ks, rfl, ha, by rw [hl.1]; exact pairKeys_some hp, hkz, fun zs p hzs pm pw hn => ?_⟩
          have e : zs.map (·.2) = sortPr ks := sortPr_eq pm pw
          have hrep := reps_of_mem0 (ρ := ρ) hkt zs hzs
          rw [e] at hrep
          obtain ⟨k1, k2, k3, k4⟩ := Cell.new t hrep hn
          exact k ρ _ p k1 k2 k3 hn k4
        · cases hz
    | _ => cases hz
theorem nv_sortedK {X : Cx} {c : FC} {a : Expr} {f : FF Hd} {p pos : Pos} (hc : X.calm = true) (hk : c.kt = false) (hg : Gl X "sorted") (hm : X.mg "sorted" = none) (ha : HV X c a f) (he : starEach (a :: []) X.env = (false, eval a X.env) :: starEach [] X.env := by rfl) : NV X c (.Call (.Name "sorted" p) [a] [] pos) (nCall1 nSortedK f) :=
  nv_cB (FT.cr_sortedK hc) (cn_sortedK hk) hg hm (by decide +kernel) ha (by decide) (by decide) he
end Fx

set_option Elab.async false
set_option linter.all false
set_option maxRecDepth 100000
set_option maxHeartbeats 1000000
/-! Fx part 29: a, b = [..], y where a name is a cell; x += y; {k: v}; max, min of a list of ints. -/
namespace Fx
open PySem L2
section
variable {X : Cx} {c : FC} {i j : Nat} {x y : Str} {a b : Expr} {f g : EF} {fc gc : CF} {px py pt pos : Pos} {kt k2 : Nat} {pt2 : Pos}
theorem es_tupO (hc : X.calm = true) (hN : X.N.Nodup) (hi : X.N[i]? = some x) (hj : X.N[j]? = some y) (hx : Loc X.env.scope x) (hy : Loc X.env.scope y) (hfx : X.fn x = true ∨ X.env.scope.names.lookup x = some .local) (hfy : X.fn y = true ∨ X.env.scope.names.lookup y = some .local) (ha : NV X c a fc) (hb : EV X c b g)
    (hw : swappedStores [.Tuple [.Name x px, .Name y py] kt pt] (.Tuple [a, b] k2 pt2) X.env = pure none := by rfl)
    (hs : swapsWithSole [.Tuple [.Name x px, .Name y py] kt pt] (.Tuple [a, b] k2 pt2) pos.line X.env = pure false := by rfl) (he : starEach (a :: [b]) X.env = (false, eval a X.env) :: starEach [b] X.env := by rfl) (he' : starEach [b] X.env = (false, eval b X.env) :: starEach [] X.env := by rfl)
    (h1 : (assignEach [.Tuple [.Name x px, .Name y py] kt pt] X.env).map (·.2) = [assign (.Tuple [.Name x px, .Name y py] kt pt) X.env] := by rfl) :
    ES X c (.Assign [.Tuple [.Name x px, .Name y py] kt pt] (.Tuple [a, b] k2 pt2) pos) (sParO i j fc g) := ps_imp (ps_asg (pe_tup (pa_cons ha (pa_cons hb pa_nil he') he)) (pg_tup hc (pgs_cons (pg_name hN hi hx hfx) (pgs_cons (pg_name hN hj hy hfy) pgs_nil)) rfl rfl) hs hw h1) fun D σ H q => by
  refine tS.first (R := RN _) (k := fun s v L1 => bnd (g s L1) fun w L2 => some (.ok (.nx ((s.set i (.own v)).set j (.val w))) L2)) q fun ρ L s v L1 ρ1 H1 u r e1 t1 q1 o => ?_
  refine ⟨ρ1, L1, s, r.go e1 t1, OuS.bind (R := RE _) o (r.ext.trans e1) fun w L2 ρ2 H2 u2 _ e2 t2 q2 o2 => ?_⟩
  refine ⟨(by decide : 2 ≤ sizeLine), fun p hp => ⟨p, [u, u2], rfl, .inl (.inl upd_same), rfl, u, [u2], rfl, u2, [], rfl, rfl, ?_⟩⟩
  exact o2 ρ2 _ _ (Ext.new hp).toStb ((((r.ownNew e1 t1 q1 i).go e2 t2).set q2).new hp)
theorem es_tupV (hc : X.calm = true) (hN : X.N.Nodup) (hi : X.N[i]? = some x) (hj : X.N[j]? = some y) (hx : Loc X.env.scope x) (hy : Loc X.env.scope y) (hfx : X.fn x = true ∨ X.env.scope.names.lookup x = some .local) (hfy : X.fn y = true ∨ X.env.scope.names.lookup y = some .local) (ha : EV X c a f) (hb : NV X c b gc)
    (hw : swappedStores [.Tuple [.Name x px, .Name y py] kt pt] (.Tuple [a, b] k2 pt2) X.env = pure none := by rfl)
    (hs : swapsWithSole [.Tuple [.Name x px, .Name y py] kt pt] (.Tuple [a, b] k2 pt2) pos.line X.env = pure false := by rfl) (he : starEach (a :: [b]) X.env = (false, eval a X.env) :: starEach [b] X.env := by rfl) (he' : starEach [b] X.env = (false, eval b X.env) :: starEach [] X.env := by rfl)
    (h1 : (assignEach [.Tuple [.Name x px, .Name y py] kt pt] X.env).map (·.2) = [assign (.Tuple [.Name x px, .Name y py] kt pt) X.env] := by rfl) :
    ES X c (.Assign [.Tuple [.Name x px, .Name y py] kt pt] (.Tuple [a, b] k2 pt2) pos) (sParV i j f gc) := ps_imp (ps_asg (pe_tup (pa_cons ha (pa_cons hb pa_nil he') he)) (pg_tup hc (pgs_cons (pg_name hN hi hx hfx) (pgs_cons (pg_name hN hj hy hfy) pgs_nil)) rfl rfl) hs hw h1) fun D σ H q => by
  refine tS.first (R := RE _) (k := fun s v L1 => bnd (gc s L1) fun w L2 => some (.ok (.nx ((s.set i (.val v)).set j (.own w))) L2)) q fun ρ L s v L1 ρ1 H1 u r e1 t1 q1 o => ?_
  refine ⟨ρ1, L1, s, r.go e1 t1, OuS.bind (R := RN _) o (r.ext.trans e1) fun w L2 ρ2 H2 u2 _ e2 t2 q2 o2 => ?_⟩
  refine ⟨(by decide : 2 ≤ sizeLine), fun p hp => ⟨p, [u, u2], rfl, .inl (.inl upd_same), rfl, u, [u2], rfl, u2, [], rfl, rfl, ?_⟩⟩
  exact o2 ρ2 _ _ (Ext.new hp).toStb ((((r.go e1 t1).set q1).ownNew e2 t2 q2 j).new hp)
/-- x += e, both ints -/
def sAugI (i : Nat) (f : EF) : SF := fun s L => match s[i]? with
  | some (.val (.int n)) => bnd (f s L) fun v L1 => match v with
    | .int m => some (.ok (.nx (s.set i (.val (.int (n + m))))) L1)
    | _ => none
  | _ => none
theorem es_aug {e : Expr} (hN : X.N.Nodup) (hi : X.N[i]? = some x) (hx : Loc X.env.scope x) (he : EV X c e f) (hf : X.fn x = true ∨ X.env.scope.names.lookup x = some .local := by first | exact .inl rfl | exact .inr rfl | assumption) : ES X c (.AugAssign (.Name x px) .Add e pos) (sAugI i f) := ps_imp (ps_aug hN hi hx he ip_add hf) fun D σ H q => by
  obtain ⟨ρ, L, s, r, o⟩ := q
  unfold sAugI at o
  cases hs : s[i]? with
  | none => rw [hs] at o; exact o.elim
  | some w =>
    cases w with
    | val v =>
      cases v with
      | int n =>
        rw [hs] at o
        obtain ⟨β, qq⟩ := r.sl
        obtain ⟨u, h1, h2⟩ := qq.val i _ hs
        obtain rfl : u = .int n := h2
        refine ⟨.int n, h1, ρ, L, s, r, OuS.bind (R := RE _) o r.ext fun v L1 ρ1 H1 w _ e1 t1 q1 o1 => ?_⟩
        cases v with
        | int m =>
          obtain rfl : w = .int m := q1
          exact ⟨n, m, rfl, rfl, o1 ρ1 H1 _ Stb.refl ((r.go e1 t1).set (x := .int (n + m)) rfl)⟩
        | _ => exact o1.elim
      | _ => rw [hs] at o; exact o.elim
    | _ => rw [hs] at o; exact o.elim
/-- {k: v} -/
def nDk1 (fk fv : EF) : CF := fun s L => bnd (fk s L) fun k L1 => bnd (fv s L1) fun v L2 => match keyOf k with
  | some kk => some (.ok (.dk [(kk, v)]) L2)
  | none => none
theorem nv_dk1 {ek ev : Expr} {fk fv : EF} (hk : EV X c ek fk) (hv : EV X c ev fv) : NV X c (.Dict [some ek] [ev] pos) (nDk1 fk fv) := pe_imp (pe_disp (pps_cons hk hv pps_nil) rfl rfl (by simp) (by simp)) fun σ H Q q => by
  intro p hp
  obtain ⟨ρ, L, s, r, o⟩ := q
  have r1 := r.new (u := .dK []) hp
  have pn : p ∉ ρ := r.st.fresh hp
  have e0 : Ext ρ ρ H (upd H p (.dK [])) := Ext.new hp
  have o : Ou (gx X c.kt) (RN (gx X c.kt)) c.W ρ σ H Q (bnd (fk s L) fun k L1 => bnd (fv s L1) fun v L2 => match keyOf k with
    | some kk => some (.ok (.dk [(kk, v)]) L2)
    | none => none) := o
  show tOf _ _ _ _ _ fk σ (upd H p (.dK [])) _
  refine ⟨ρ, L, s, r1, ?_⟩
  cases h1 : fk s L with
  | none => rw [h1] at o; exact o.elim
  | some w =>
    cases w with
    | err x L1 =>
      rw [h1] at o
      exact fun ρ' H' cls d f t q => o ρ' H' cls d (e0.trans f) t q
    | ok k L1 =>
      rw [h1, bnd_ok] at o
      intro ρ1 H1 kv e1 t1 rk
      have p1 : H1 p = some (.dK []) := e1.keep _ _ pn upd_same
      have n1 : p ∉ ρ1 := e1.notin pn upd_same
      show tOf _ _ _ _ _ fv σ H1 _
      refine ⟨ρ1, L1, s, r1.go e1 t1, ?_⟩
      cases h2 : fv s L1 with
      | none => rw [h2] at o; exact o.elim
      | some w =>
        cases w with
        | err x L2 =>
          rw [h2] at o
          exact fun ρ' H' cls d f t q => o ρ' H' cls d ((e0.trans e1).trans f) t q
        | ok v L2 =>
          rw [h2, bnd_ok] at o
          intro ρ2 H2 vv e2 t2 rv
          have p2 : H2 p = some (.dK []) := e2.keep _ _ n1 p1
          have n2 : p ∉ ρ2 := e2.notin n1 p1
          cases hk : keyOf k with
          | none => rw [hk] at o; exact o.elim
          | some kk =>
            rw [hk] at o
            refine ⟨p2, [(kk, vv)], by rw [keyOf_rep rk hk]; rfl, by simp, ?_⟩
            have st : Stb ρ2 ρ2 H2 (upd H2 p (.dK [(kk, vv)])) := Stb.mut p2 trivial
            exact o ρ2 _ _ (((e0.trans e1).trans e2).mutNew hp p2 trivial) (t2.mutOut n2 p2 trivial) ⟨p, rfl, n2, hp, [(kk, vv)], upd_same, rfl, .cons (rv.mono st) .nil⟩
/-! ### max, min of a list of ints -/
def maxL : List Int → Int
  | [] => 0
  | [a] => a
  | a :: r => if maxL r ≥ a then maxL r else a
def minL : List Int → Int
  | [] => 0
  | [a] => a
  | a :: r => if minL r ≤ a then minL r else a
theorem maxL_spec : ∀ {ns : List Int}, ns ≠ [] → maxL ns ∈ ns ∧ ∀ y ∈ ns, y ≤ maxL ns
  | [], h => absurd rfl h
  | [a], _ => ⟨by simp [maxL], fun y hy => by simp at hy; simp [maxL, hy]⟩
  | a :: b :: r, _ => by
    obtain ⟨h1, h2⟩ := maxL_spec (ns := b :: r) (by simp)
    show (if maxL (b :: r) ≥ a then maxL (b :: r) else a) ∈ _ ∧ ∀ y ∈ _, y ≤ (if maxL (b :: r) ≥ a then maxL (b :: r) else a)
    split
    · rename_i h
      exact ⟨List.mem_cons_of_mem _ h1, fun y hy => by
        rcases List.mem_cons.mp hy with e | e
        · rw [e]; exact h
        · exact h2 y e⟩
    · rename_i h
      exact ⟨List.mem_cons_self, fun y hy => by
        rcases List.mem_cons.mp hy with e | e
        · rw [e]; exact Int.le_refl _
        · have := h2 y e; omega⟩
theorem minL_spec : ∀ {ns : List Int}, ns ≠ [] → minL ns ∈ ns ∧ ∀ y ∈ ns, minL ns ≤ y
  | [], h => absurd rfl h
  | [a], _ => ⟨by simp [minL], fun y hy => by simp at hy; simp [minL, hy]⟩
  | a :: b :: r, _ => by
    obtain ⟨h1, h2⟩ := minL_spec (ns := b :: r) (by simp)
    show (if minL (b :: r) ≤ a then minL (b :: r) else a) ∈ _ ∧ ∀ y ∈ _, (if minL (b :: r) ≤ a then minL (b :: r) else a) ≤ y
    split
    · rename_i h
      exact ⟨List.mem_cons_of_mem _ h1, fun y hy => by
        rcases List.mem_cons.mp hy with e | e
        · rw [e]; exact h
        · exact h2 y e⟩
    · rename_i h
      exact ⟨List.mem_cons_self, fun y hy => by
        rcases List.mem_cons.mp hy with e | e
        · rw [e]; exact Int.le_refl _
        · have := h2 y e; omega⟩
theorem maxL_eq {ns : List Int} {m : Int} (h1 : m ∈ ns) (h2 : ∀ y ∈ ns, y ≤ m) : m = maxL ns := by
  have hn : ns ≠ [] := fun e => by rw [e] at h1; cases h1
  obtain ⟨k1, k2⟩ := maxL_spec hn
  have := h2 _ k1
  have := k2 _ h1
  omega
theorem minL_eq {ns : List Int} {m : Int} (h1 : m ∈ ns) (h2 : ∀ y ∈ ns, m ≤ y) : m = minL ns := by
  have hn : ns ≠ [] := fun e => by rw [e] at h1; cases h1
  obtain ⟨k1, k2⟩ := minL_spec hn
  have := h2 _ k1
  have := k2 _ h1
  omega
def hMaxL (L : Store) (x : Hd) : Option PV := match view L x with
  | some (.lst xs) => (intsOf xs).bind fun ns => if ns = [] then none else some (.int (maxL ns))
  | _ => none
def hMinL (L : Store) (x : Hd) : Option PV := match view L x with
  | some (.lst xs) => (intsOf xs).bind fun ns => if ns = [] then none else some (.int (minL ns))
  | _ => none
theorem c1_maxL {G : Gx} {K : PySem.W.Frag} (hK : G.K = K) : Cal1 G hMaxL (rMax K) := by
  subst hK
  intro ρ L H x v z Q t hx hz k
  unfold hMaxL at hz
  cases hw : view L x with
  | none => rw [hw] at hz; cases hz
  | some vw =>
    rw [hw] at hz
    have hr := view_rep t hx hw
    cases vw with
    | lst xs =>
      dsimp only at hz
      cases hp : intsOf xs with
      | none => rw [hp] at hz; cases hz
      | some ns =>
        rw [hp] at hz
        dsimp only [Option.bind] at hz
        split at hz
        · cases hz
        · rename_i hne
          cases hz
          obtain ⟨a, vs, rfl, ha, hs⟩ := hr
          have := intsOf_rep hp hs
          subst this
          exact ⟨a, ns, rfl, .inl ha, List.length_pos_iff.mpr hne, fun m h1 h2 => k ρ H _ Ext.refl t (by rw [maxL_eq h1 h2]; rfl)⟩
    | _ => cases hz
theorem c1_minL {G : Gx} {K : PySem.W.Frag} (hK : G.K = K) : Cal1 G hMinL (rMin K) := by
  subst hK
  intro ρ L H x v z Q t hx hz k
  unfold hMinL at hz
  cases hw : view L x with
  | none => rw [hw] at hz; cases hz
  | some vw =>
    rw [hw] at hz
    have hr := view_rep t hx hw
    cases vw with
    | lst xs =>
      dsimp only at hz
      cases hp : intsOf xs with
      | none => rw [hp] at hz; cases hz
      | some ns =>
        rw [hp] at hz
        dsimp only [Option.bind] at hz
        split at hz
        · cases hz
        · rename_i hne
          cases hz
          obtain ⟨a, vs, rfl, ha, hs⟩ := hr
          have := intsOf_rep hp hs
          subst this
          exact ⟨a, ns, rfl, .inl ha, List.length_pos_iff.mpr hne, fun m h1 h2 => k ρ H _ Ext.refl t (by rw [minL_eq h1 h2]; rfl)⟩
    | _ => cases hz
theorem ev_maxL {e : Expr} {f : FF Hd} {p : Pos} (hc : X.calm = true) (hg : Gl X "max") (hm : X.mg "max" = none) (ha : HV X c e f) (he : starEach (e :: []) X.env = (false, eval e X.env) :: starEach [] X.env := by rfl) : EV X c (.Call (.Name "max" p) [e] [] pos) (eCall1 hMaxL f) :=
  ev_cB (cr_max hc) (c1_maxL rfl) hg hm (by decide +kernel) ha (by decide) (by decide) he
theorem ev_minL {e : Expr} {f : FF Hd} {p : Pos} (hc : X.calm = true) (hg : Gl X "min") (hm : X.mg "min" = none) (ha : HV X c e f) (he : starEach (e :: []) X.env = (false, eval e X.env) :: starEach [] X.env := by rfl) : EV X c (.Call (.Name "min" p) [e] [] pos) (eCall1 hMinL f) :=
  ev_cB (cr_min hc) (c1_minL rfl) hg hm (by decide +kernel) ha (by decide) (by decide) he
end
end Fx

set_option Elab.async false
set_option linter.all false
set_option maxRecDepth 100000
set_option maxHeartbeats 1000000
/-! Fx part 30: the plain side of Fx25..29. -/
namespace Fx
open PySem L2
section
variable {f g fk fv : EF} {s : Slots} {L : Store} {i : Nat} {h : SF} {P : Flw → Store → Prop} {kt : Bool}
@[simp] theorem sAugI_at : sAugI i f s L = match s[i]? with
  | some (.val (.int n)) => bnd (f s L) fun v L1 => match v with
    | .int m => some (.ok (.nx (s.set i (.val (.int (n + m))))) L1)
    | _ => none
  | _ => none := rfl
@[simp] theorem nDk1_at : nDk1 fk fv s L = bnd (fk s L) fun k L1 => bnd (fv s L1) fun v L2 => match keyOf k with
  | some kk => some (.ok (.dk [(kk, v)]) L2)
  | none => none := rfl
@[simp] theorem hMaxL_l {xs : List PV} : hMaxL L (.v (.lst xs)) = (intsOf xs).bind fun ns => if ns = [] then none else some (.int (maxL ns)) := rfl
@[simp] theorem hMinL_l {xs : List PV} : hMinL L (.v (.lst xs)) = (intsOf xs).bind fun ns => if ns = [] then none else some (.int (minL ns)) := rfl
end
end Fx

set_option Elab.async false
set_option linter.all false
set_option maxRecDepth 100000
set_option maxHeartbeats 1000000
/-! Fx part 31: dicts with ints for keys. -/
namespace Fx
open PySem L2
section
variable {α : Type} {f : α → PV} {Q : Int → α → Prop} {lo n : Nat} {c : Cell}
def kvI (f : α → PV) (ms : List (Int × α)) : List (Key × PV) := ms.map fun r => (.inl r.1, f r.2)
def SI (f : α → PV) (Q : Int → α → Prop) (lo n : Nat) (c : Cell) : Prop := ∃ ms : List (Int × α), c = .dk (kvI f ms) ∧ (ms.map (·.1)).Nodup ∧ (lo ≤ ms.length ∧ ms.length ≤ n) ∧ ∀ r ∈ ms, Q r.1 r.2
theorem SI.nil : SI f Q 0 0 (.dk []) := ⟨[], rfl, by simp, by simp, by simp⟩
theorem SI.mono {m : Nat} (h : SI f Q lo n c) (hm : n ≤ m) : SI f Q lo m c := by
  obtain ⟨ms, h1, h2, h3, h4⟩ := h
  exact ⟨ms, h1, h2, ⟨h3.1, Nat.le_trans h3.2 hm⟩, h4⟩
def putI (ms : List (Int × α)) (k : Int) (a : α) : List (Int × α) := if (ms.any fun r => decide (r.1 = k)) = true then ms.map fun r => if r.1 = k then (r.1, a) else r else ms ++ [(k, a)]
theorem kvI_put (ms : List (Int × α)) (k : Int) (a : α) : put (kvI f ms) (.inl k) (f a) = kvI f (putI ms k a) := by
  unfold put putI kvI
  have e : ((ms.map fun r => ((.inl r.1 : Key), f r.2)).any fun kv => decide (kv.1 = (.inl k : Key))) = ms.any fun r => decide (r.1 = k) := by
    rw [List.any_map]
    congr 1
    funext r
    simp
  rw [e]
  split
  · rw [List.map_map, List.map_map]
    refine List.map_congr_left fun r hr => ?_
    by_cases h : r.1 = k
    · simp [h]
    · have h' : ¬ ((.inl r.1 : Key) = .inl k) := fun q => h (Sum.inl.inj q)
      simp [h, h']
  · simp
theorem putI_keys (ms : List (Int × α)) (k : Int) (a : α) : (putI ms k a).map (·.1) = if k ∈ ms.map (·.1) then ms.map (·.1) else ms.map (·.1) ++ [k] := by
  unfold putI
  by_cases h : k ∈ ms.map (·.1)
  · have : (ms.any fun r => decide (r.1 = k)) = true := by
      obtain ⟨r, hr, rfl⟩ := List.mem_map.mp h
      exact List.any_eq_true.mpr ⟨r, hr, by simp⟩
    rw [if_pos this, if_pos h, List.map_map]
    refine List.map_congr_left fun r hr => ?_
    by_cases q : r.1 = k <;> simp [q]
  · have : ¬ (ms.any fun r => decide (r.1 = k)) = true := fun q => by
      obtain ⟨r, hr, e⟩ := List.any_eq_true.mp q
      exact h (List.mem_map.mpr ⟨r, hr, by simpa using e⟩)
    rw [if_neg this, if_neg h]
    simp
theorem putI_mem {ms : List (Int × α)} {k : Int} {a : α} {r : Int × α} (h : r ∈ putI ms k a) : r = (k, a) ∨ r ∈ ms := by
  unfold putI at h
  split at h
  · obtain ⟨x, hx, rfl⟩ := List.mem_map.mp h
    by_cases q : x.1 = k
    · left; simp [q]
    · right; simpa [q] using hx
  · rcases List.mem_append.mp h with q | q
    · exact .inr q
    · exact .inl (by simpa using q)
theorem putI_length (ms : List (Int × α)) (k : Int) (a : α) : (putI ms k a).length ≤ ms.length + 1 := by
  unfold putI
  split <;> simp
theorem SI.put {kt : Bool} {k : Int} {a : α} (h : SI f Q lo n c) (hl : lo ≤ 1) (hn : n < 100000) (hq : Q k a) : ∃ c', setC kt c (.int k) (f a) = some c' ∧ SI f Q 1 (n + 1) c' := by
  obtain ⟨ms, rfl, h2, h3, h4⟩ := h
  refine ⟨.dk (kvI f (putI ms k a)), ?_, putI ms k a, rfl, ?_, ?_, fun r hr => ?_⟩
  · show (if (kvI f ms).length < sizeLine then (keyOf (.int k)).map fun k => Cell.dk (Fx.put (kvI f ms) k (f a)) else none) = _
    have hz : (kvI f ms).length < sizeLine := Nat.lt_of_lt_of_le (by unfold kvI; rw [List.length_map]; omega) (by decide : 100000 ≤ sizeLine)
    rw [if_pos hz]
    show some (Cell.dk (Fx.put (kvI f ms) (.inl k) (f a))) = _
    rw [kvI_put]
  · rw [putI_keys]
    split
    · exact h2
    · rename_i hk
      rw [List.nodup_append]
      exact ⟨h2, by simp, fun x hx y hy e => hk (by rw [List.mem_singleton.mp hy] at e; rw [← e]; exact hx)⟩
  · refine ⟨?_, Nat.le_trans (putI_length ms k a) (by omega)⟩
    unfold putI
    split
    · rename_i q
      obtain ⟨r, hr, _⟩ := List.any_eq_true.mp q
      rw [List.length_map]
      exact List.length_pos_of_mem hr
    · simp
  · rcases putI_mem hr with q | q
    · rw [q]; exact hq
    · exact h4 r q
theorem look_memI : ∀ {ms : List (Int × α)}, (ms.map (·.1)).Nodup → ∀ r ∈ ms, look (kvI f ms) (.inl r.1) = some (f r.2)
  | [], _, r, h => by simp at h
  | x :: ms, hn, r, h => by
    have hn' := List.nodup_cons.mp (show (x.1 :: ms.map (·.1)).Nodup from hn)
    unfold look kvI
    rw [List.map_cons, List.find?_cons]
    rcases List.mem_cons.mp h with e | e
    · rw [e]; simp
    · have ne : ¬ ((.inl x.1 : Key) = .inl r.1) := fun q => hn'.1 (by rw [Sum.inl.inj q]; exact List.mem_map.mpr ⟨r, e, rfl⟩)
      have := look_memI hn'.2 r e
      unfold look kvI at this
      simp only [ne, decide_false]
      exact this
theorem intKeys_kvI : ∀ ms : List (Int × α), intKeys (kvI f ms) = some (ms.map (·.1))
  | [] => rfl
  | x :: ms => by
    show (intKeys (kvI f ms)).map (x.1 :: ·) = _
    rw [intKeys_kvI ms]
    rfl
/-- sorted(d), and what stands behind each key -/
theorem SI.sorted {kt : Bool} {L : Store} (h : SI f Q lo n c) (hn : n < 64) : ∃ ms : List (Int × α), (ms.map (·.1)).Pairwise (fun a b => a < b) ∧ (lo ≤ ms.length ∧ ms.length ≤ n) ∧ (∀ r ∈ ms, Q r.1 r.2) ∧
    nSorted L (.o c) = some (.lst (ms.map fun r => .int r.1)) ∧ ∀ r ∈ ms, hIx kt L (.o c) (.int r.1) = some (f r.2) := by
  obtain ⟨ms, rfl, h2, h3, h4⟩ := h
  have hp := sortI_perm (ms.map (·.1))
  have hs := sortI_sorted (ms.map (·.1))
  have hnd : (sortI (ms.map (·.1))).Nodup := hp.nodup_iff.mpr h2
  -- each key's row
  have row : ∀ k ∈ sortI (ms.map (·.1)), ∃ a, (k, a) ∈ ms := fun k hk => by
    obtain ⟨r, hr, rfl⟩ := List.mem_map.mp (hp.mem_iff.mp hk)
    exact ⟨r.2, hr⟩
  have build : ∀ ks : List Int, (∀ k ∈ ks, ∃ a, (k, a) ∈ ms) → ∃ ns : List (Int × α), ns.map (·.1) = ks ∧ ∀ r ∈ ns, r ∈ ms := by
    intro ks
    induction ks with
    | nil => exact fun _ => ⟨[], rfl, by simp⟩
    | cons k ks ih =>
      intro hk
      obtain ⟨a, ha⟩ := hk k (by simp)
      obtain ⟨ns, e, hns⟩ := ih fun x hx => hk x (List.mem_cons_of_mem k hx)
      exact ⟨(k, a) :: ns, by simp [e], fun r hr => by
        rcases List.mem_cons.mp hr with q | q
        · rw [q]; exact ha
        · exact hns r q⟩
  obtain ⟨ns, e, hns⟩ := build _ row
  have hlen : ns.length = ms.length := by
    have := congrArg List.length e
    rw [List.length_map, hp.length_eq, List.length_map] at this
    exact this
  refine ⟨ns, ?_, by omega, fun r hr => h4 r (hns r hr), ?_, fun r hr => ?_⟩
  · rw [e]
    have hboth := hs.and hnd
    refine hboth.imp fun {a b} ⟨hle, hne⟩ => ?_
    omega
  · unfold nSorted
    rw [view_odk]
    dsimp only
    have hl : (ms.map (·.1)).length < 64 := by rw [List.length_map]; omega
    cases ms with
    | nil =>
      have : ns = [] := by simpa using hlen
      subst this
      have h0 : strKeys (kvI f []) = some [] := rfl
      rw [h0]
      have h1 : sortS [] = [] := by simp [sortS]
      simp [h1]
    | cons x ms' =>
      have h0 : strKeys (kvI f (x :: ms')) = none := rfl
      rw [h0]
      dsimp only
      rw [intKeys_kvI]
      dsimp only
      rw [if_pos hl, ← e, List.map_map]
      rfl
  · have := look_memI (f := f) h2 r (hns r hr)
    unfold hIx
    rw [view_odk]
    show (match dLook' kt (.dk (kvI f ms)) (.int r.1) with
      | some (some v) => some v
      | _ => none) = _
    have hd : dLook' kt (.dk (kvI f ms)) (.int r.1) = some (some (f r.2)) := by
      show dLook (.dk (kvI f ms)) (.int r.1) = _
      show (keyOf (.int r.1)).map (fun k => look (kvI f ms) k) = _
      show some (look (kvI f ms) (.inl r.1)) = _
      rw [this]
    rw [hd]
end
end Fx

set_option Elab.async false
set_option linter.all false
set_option maxRecDepth 100000
set_option maxHeartbeats 1000000
/-! Fx part 32: more of the plain side. -/
namespace Fx
open PySem L2
section
variable {g : SF} {s : Slots} {L : Store} {P : Flw → Store → Prop}
@[simp] theorem Ok_seqOwnM {m : Cell → List PV → Option Cell} {i : Nat} {fa : AF} : Ok (sSeq (sOwnM m i fa) g s L) P ↔ Ok (sOwnM m i fa s L) fun w L1 => match w with
  | .nx s1 => Ok (g s1 L1) P
  | w => P w L1 := Ok_seq
@[simp] theorem Ok_seqPutO {kt : Bool} {i : Nat} {fk fv : EF} : Ok (sSeq (sPutO kt i fk fv) g s L) P ↔ Ok (sPutO kt i fk fv s L) fun w L1 => match w with
  | .nx s1 => Ok (g s1 L1) P
  | w => P w L1 := Ok_seq
@[simp] theorem Ok_seqAugI {i : Nat} {f : EF} : Ok (sSeq (sAugI i f) g s L) P ↔ Ok (sAugI i f s L) fun w L1 => match w with
  | .nx s1 => Ok (g s1 L1) P
  | w => P w L1 := Ok_seq
end
end Fx

set_option Elab.async false
set_option linter.all false
set_option maxRecDepth 100000
set_option maxHeartbeats 1000000
/-! Fx part 33: [..] * n, (..) * n. -/
namespace FT
open PySem PySem.Spec PyProof.Rows L2 HT
def rRepL (K : PySem.W.Frag) : R2 := fun x y H Q => ∃ l k xs, x = .ref l ∧ y = .int k ∧ SqL K H l xs ∧ 0 ≤ k ∧ k ≤ 2 ^ 20 ∧ xs.length ≤ 8 ∧ ∀ p, H p = none → Q (.ref p) (upd H p (.lst (List.replicate k.toNat xs).flatten))
section
variable {X : Cx}
theorem flat_len {α : Type} (xs : List α) : ∀ m : Nat, (List.replicate m xs).flatten.length = m * xs.length
  | 0 => by simp
  | m + 1 => by rw [List.replicate_succ, List.flatten_cons, List.length_append, flat_len xs m, Nat.succ_mul]; omega
theorem op_repL : OpR X (binaryOp .Mult) (rRepL X.K) := by
  intro pins s σ H x y v u Q I rx ry h
  obtain ⟨l, k, xs, rfl, rfl, hT, h0, h1, hz, q⟩ := h
  cases rx
  obtain ⟨t, rfl⟩ := ry
  obtain ⟨its, r, hl, hs⟩ := I.list hT
  have hl := hl.isList
  obtain ⟨⟨cls, d, data, sl⟩, ho, hcl, n, hd⟩ := id hl
  simp only at hcl hd
  subst hcl hd
  have hle : its.length = xs.length := r.length.symm
  have hm : k.toNat * xs.length ≤ 2 ^ 20 * 8 := Nat.mul_le_mul (by omega) hz
  have hsz' : its.toArray.size * k.toNat ≤ 2 ^ 24 := by rw [List.size_toArray, hle, Nat.mul_comm]; omega
  have flen : (List.replicate k.toNat xs).flatten.length ≤ sizeLine := by rw [flat_len, sizeLine_eq]; omega
  refine wpAny_binaryOp_repeat_ref (T := "list") (U := "int") (by decide) ⟨_, ho, rfl⟩ (fun s' => typeIs_int s' k t) noFill_list_mul F.fills_int_mul F.slot_int_rmul repeat_list F.slot_int_index.lookup
    (call_meets F.slot_int_rmul (typeIs_int s k t) F.entry_int_rmul (F.args_int_rmul_2 _ _) (lm_int_rmul_list_any k t l its.toArray n d sl)
      ⟨ho, rfl, ⟨_, ho, rfl⟩, call_meets F.slot_list_mul ⟨_, ho, rfl⟩ F.entry_list_mul (F.args_list_mul_2 _ _)
        (lm_list_mul_any l its.toArray n d sl k t (by simp [Builtin.List.listFitsIndex]; omega) (by omega) (by simp [Builtin.List.listTooLong, sizeLine]; omega))
        ⟨ho, ?_⟩⟩)
  rw [listMul_foldl_if]
  refine ⟨.ref s.heap.objs.size, _, I.laid (t' := s.toks) (o := .lst (List.replicate k.toNat xs).flatten) (fun b ob q => Heap.get?_push_of_some _ q) (Nat.le_refl _) ?_, rfl, q _ (I.hok.fresh (Nat.le_refl _))⟩
  exact ⟨flen, (List.replicate k.toNat its).flatten, 0, r.rep k.toNat, Heap.get?_push_size _ rfl⟩
end
end FT
namespace Fx
open PySem L2
theorem Reps.rep {G : Gx} {ρ : List Addr} {H : Hp} {xs : List PV} {vs : List V} (h : Reps G ρ H xs vs) : ∀ m : Nat, Reps G ρ H (List.replicate m xs).flatten (List.replicate m vs).flatten
  | 0 => .nil
  | m + 1 => by
    rw [List.replicate_succ, List.flatten_cons, List.replicate_succ, List.flatten_cons]
    exact h.append (h.rep m)
def nRep (fc : CF) (g : EF) : CF := fun s L => bnd (fc s L) fun w L1 => bnd (g s L1) fun v L2 => match w, v with
  | .lst xs, .int k => if 0 ≤ k ∧ k ≤ 2 ^ 20 ∧ xs.length ≤ 8 then some (.ok (.lst (List.replicate k.toNat xs).flatten) L2) else none
  | _, _ => none
section
variable {X : Cx} {c : FC} {a b : Expr} {fc : CF} {f g : EF} {pos : Pos}
theorem nv_rep (ha : NV X c a fc) (hb : EV X c b g) : NV X c (.BinOp a .Mult b pos) (nRep fc g) := pe_imp (pe_op FT.op_repL ha hb) fun σ H Q q => by
  refine tOf.first (R := RN _) (R' := RN _) (k := fun s w L1 => bnd (g s L1) fun v L2 => match w, v with
    | .lst xs, .int k => if 0 ≤ k ∧ k ≤ 2 ^ 20 ∧ xs.length ≤ 8 then some (.ok (.lst (List.replicate k.toNat xs).flatten) L2) else none
    | _, _ => none) q fun ρ L s w L1 ρ1 H1 u r e1 q1 o => ?_
  refine ⟨ρ1, L1, s, r, Ou.bind (R := RE _) (R' := RN _) o fun v L2 ρ2 H2 u2 _ e2 t2 q2 o2 => ?_⟩
  cases w with
  | lst xs =>
    cases v with
    | int k =>
      obtain rfl : u2 = .int k := q2
      obtain ⟨a, rfl, na, ha0, vs, hav, hrs⟩ := q1
      have hav2 : H2 a = some (.lst vs) := e2.keep _ _ na hav
      dsimp only at o2
      split at o2
      · rename_i hk
        have hr2 := Reps.mono e2.toStb hrs
        refine ⟨a, k, vs, rfl, rfl, .inl (.inl hav2), hk.1, hk.2.1, by rw [← hrs.length]; exact hk.2.2, fun p hp => ?_⟩
        exact o2 ρ2 _ _ (Ext.new hp) (t2.new hp) ⟨p, rfl, t2.fresh hp, hp, _, upd_same, (hr2.rep k.toNat).mono (Ext.new hp).toStb⟩
      · exact o2.elim
    | _ => exact o2.elim
  | _ => cases v <;> exact o2.elim
/-- (..) * n, of ints -/
def hRepT (kt : Bool) : PV → PV → Option PV
  | .tup xs, .int k => if kt = false ∧ 2 ≤ k ∧ k ≤ 1000 ∧ xs.length ≤ 1000 ∧ xs.isEmpty = false then (intsOf xs).map fun ns => .tup ((List.replicate k.toNat ns).flatten.map PV.int) else none
  | _, _ => none
theorem o2_repT {G : Gx} {K : PySem.W.Frag} (hK : G.K = K) : Op2 G (hRepT G.kt) (rRepT K) := by
  subst hK
  intro ρ L H x y z v w Q t hx hy hz k
  unfold hRepT at hz
  split at hz
  · rename_i xs n
    split at hz
    · rename_i hc
      cases hn : intsOf xs with
      | none => rw [hn] at hz; cases hz
      | some ns =>
        rw [hn] at hz
        cases hz
        obtain ⟨a, vs, rfl, ha, hs⟩ := hx
        obtain rfl : w = .int n := hy
        have hv := intsOf_rep hn hs
        subst hv
        have hl := hs.length
        rw [List.length_map] at hl
        have hne : ns ≠ [] := fun q => by
          subst q
          cases xs with
          | nil => cases hc.2.2.2.2
          | cons _ _ => simp at hl
        refine ⟨a, n, _, rfl, rfl, KTup.sq ha, by simpa using hne, hc.2.1, hc.2.2.1, by rw [List.length_map]; omega, fun p hp => ?_⟩
        have e : (List.replicate n.toNat (ns.map V.int)).flatten = (List.replicate n.toNat ns).flatten.map V.int := by
          rw [List.map_flatten, List.map_replicate]
        rw [e]
        refine k ρ _ _ (Ext.new hp) (t.new hp) ⟨p, _, rfl, .inl ⟨?_, upd_same⟩, (reps_ints _).mono (Ext.new hp).toStb⟩
        unfold FT.frzT
        rw [hc.1, Bool.false_or]
        have : FT.plK ((List.replicate n.toNat ns).flatten.map V.int) = true := by
          unfold FT.plK
          rw [Bool.and_eq_true]
          refine ⟨?_, List.all_eq_true.mpr fun v hv => ?_⟩
          · have : (List.replicate n.toNat ns).flatten ≠ [] := fun q => by
              have := congrArg List.length q
              rw [FT.flat_len] at this
              have h1 : 0 < ns.length := List.length_pos_iff.mpr hne
              have h2 : 0 < n.toNat := by omega
              have h3 := Nat.mul_pos h2 h1
              simp at this
              omega
            cases hq : (List.replicate n.toNat ns).flatten with
            | nil => exact absurd hq this
            | cons _ _ => rfl
          · obtain ⟨i, _, rfl⟩ := List.mem_map.mp hv
            rfl
        rw [this]
        rfl
    · cases hz
  · cases hz
theorem ev_repT {kt : Bool} (hk : c.kt = kt) (ha : EV X c a f) (hb : EV X c b g) : EV X c (.BinOp a .Mult b pos) (eOp (hRepT kt) f g) := by
  subst hk
  exact ev_op op_repT (o2_repT rfl) ha hb
end
section
variable {fc : CF} {g : EF} {s : Slots} {L : Store}
@[simp] theorem nRep_at : nRep fc g s L = bnd (fc s L) fun w L1 => bnd (g s L1) fun v L2 => match w, v with
  | .lst xs, .int k => if 0 ≤ k ∧ k ≤ 2 ^ 20 ∧ xs.length ≤ 8 then some (.ok (.lst (List.replicate k.toNat xs).flatten) L2) else none
  | _, _ => none := rfl
@[simp] theorem hRepT_i {kt : Bool} {xs : List PV} {k : Int} : hRepT kt (.tup xs) (.int k) = if kt = false ∧ 2 ≤ k ∧ k ≤ 1000 ∧ xs.length ≤ 1000 ∧ xs.isEmpty = false then (intsOf xs).map fun ns => .tup ((List.replicate k.toNat ns).flatten.map PV.int) else none := rfl
end
end Fx

set_option Elab.async false
set_option linter.all false
set_option maxRecDepth 100000
set_option maxHeartbeats 1000000
/-! Fx part 34: a walk over a dict's keys. -/
namespace Fx
open PySem L2
def hKeys : PV → Option (List PV)
  | .dk ks xs => some (ks.map keyP)
  | _ => none
def iDk (g : EF) : AF := fun s L => bnd (g s L) fun v L1 => ret (hKeys v) L1
section
variable {X : Cx} {c : FC} {tg e : Expr} {g : EF}
theorem iv_dk (h : EV X c e g) : IV X c false tg e (iDk g) := by
  refine pi_imp (pi_keys h) fun σ H R q => ?_
  refine tOf.first (R := RE _) (R' := RI _ _) (k := fun s v L1 => ret (hKeys v) L1) q fun ρ L s v L1 ρ1 H1 u r e1 q1 o => ?_
  obtain ⟨zs, hz, k⟩ := Ou.ret o
  cases v with
  | dk ks xs =>
    cases hz
    obtain ⟨a, ob, l, rfl, hn, ha, hk, hs⟩ := q1
    subst hk
    refine ⟨a, ob, rfl, .inl ⟨l, ha, k ρ1 H1 _ Ext.refl r.st fun i ρ2 H2 st => ⟨fun hi => ?_, fun hi => ⟨st.frz _ _ _ hn ha, by simpa using hi⟩⟩⟩⟩
    have hi' : i < l.length := by simpa using hi
    refine ⟨⟨st.frz _ _ _ hn ha, hi'⟩, fun x H3 hy => ?_⟩
    obtain ⟨rfl, k', v', hkv, rfl⟩ := hy
    refine ⟨fun _ _ z => z, .inl ?_⟩
    have hli : l[i] = (k', v') := (List.getElem?_eq_some_iff.mp hkv).2
    have : (List.map keyP (List.map (·.1) l))[i] = keyP k' := by simp [hli]
    rw [this]
    exact rep_key k'
  | _ => cases hz
end
section
variable {g : EF} {s : Slots} {L : Store}
@[simp] theorem iDk_at : iDk g s L = bnd (g s L) fun v L1 => ret (hKeys v) L1 := rfl
@[simp] theorem hKeys_dk {ks : List Key} {xs : List PV} : hKeys (.dk ks xs) = some (ks.map keyP) := rfl
end
end Fx

set_option Elab.async false
set_option linter.all false
set_option maxRecDepth 100000
set_option maxHeartbeats 1000000
/-! Fx part 35: calls without arguments. -/
namespace Fx
open PySem L2
theorem ev_cl0 {X : Cx} {c : FC} {kt : Bool} {k : Nat} {f : Addr} {fd : FuncData} {ps : List Str} {g : DS} {x : Str} {p pos : Pos} (hk : c.kt = kt) (F : FnOk X.prog X.w X.K X.mg X.base CX0 k f fd ps (spG (gx X kt) 0 g)) (hsf : Safe g) (hr : Room k X.A) (hg : Gl X x) (hm : X.mg x = some (.ref f)) (hkp : PySem.W.keepIn X.K (.ref f) = true) (hb : Binds X.K fd ps [])
    (hdb : (x == ("__debug__" : Str)) = false := by decide) :
    EV X c (.Call (.Name x p) [] [] pos) (eCall 0 g aNil []) := by
  subst hk
  refine pe_imp (pe_call0 F hr hg hm hkp hb .nil (E := E0) pass0 hdb) fun σ H Q q => ?_
  obtain ⟨ρ, L, s, r, o⟩ := q
  refine ⟨ρ, L, [], r.st, rfl, rfl, ?_⟩
  change Ou _ _ _ _ _ _ _ (g ([] ++ []) L) at o
  match hgg : g [] L, o with
  | some (.ok v L2), o => exact o
  | some (.err y L2), o => exact absurd hgg (hsf _ _ _ _)
  | none, o => exact o.elim
end Fx

set_option Elab.async false
set_option linter.all false
set_option maxRecDepth 100000
set_option maxHeartbeats 1000000
/-! Fx part 36: v or w of a tuple. -/
namespace Fx
open PySem L2
/-- what a tuple is worth, asked for its truth -/
def truT : PV → Option Bool
  | .tup xs => some (!xs.isEmpty)
  | _ => none
def eOrV (f g : EF) : EF := fun s L => bnd (f s L) fun v L1 => match truT v with
  | some true => some (.ok v L1)
  | some false => g s L1
  | none => none
theorem ev_orV {X : Cx} {c : FC} {a b : Expr} {rest : List Expr} {f g : EF} {pos : Pos} (ha : EV X c a f) (hb : EV X c (.BoolOp .Or (b :: rest) pos) g) : EV X c (.BoolOp .Or (a :: b :: rest) pos) (eOrV f g) := by
  refine pe_imp (pe_orT ha hb) fun σ H Q h => ?_
  refine tOf.first (R := RE _) (R' := RE _) (k := fun s v L1 => match truT v with
    | some true => some (.ok v L1)
    | some false => g s L1
    | none => none) h fun ρ L s v L1 ρ1 H1 u r e1 q1 o => ?_
  cases v with
  | tup xs =>
    obtain ⟨p, vs, rfl, h1, h2⟩ := q1
    have e : xs.isEmpty = vs.isEmpty := by
      have := h2.length
      cases xs <;> cases vs <;> simp at this ⊢
    refine ⟨!vs.isEmpty, .inr (.inl ⟨vs, KTup.sq (G := gx X c.kt) h1, rfl⟩), ?_⟩
    change Ou _ _ _ _ _ _ _ (match some (!xs.isEmpty) with
      | some true => some (.ok (.tup xs) L1)
      | some false => g s L1
      | none => none) at o
    rw [e] at o
    cases hv : vs.isEmpty with
    | true =>
      rw [hv] at o
      exact ⟨ρ1, L1, s, r, o⟩
    | false =>
      rw [hv] at o
      exact o ρ1 H1 _ Ext.refl r.st ⟨p, vs, rfl, h1, h2⟩
  | _ => exact o.elim
section
variable {f g : EF} {s : Slots} {L : Store}
@[simp] theorem eOrV_at : eOrV f g s L = bnd (f s L) fun v L1 => match truT v with
  | some true => some (.ok v L1)
  | some false => g s L1
  | none => none := rfl
end
end Fx

set_option Elab.async false
set_option linter.all false
set_option maxRecDepth 100000
set_option maxHeartbeats 1000000
/-! Fx part 37: sum, min of a tuple. -/
namespace Fx
open PySem L2 PyProof.Rows
section
variable {prog : Program} {w : World} {A : Around} {E : Value → Shared → Prop} {s : Shared} {l : Addr} {xs : Array (Int × Nat)} {its : List Value} {ns : List Int} {Q : Value → Shared → Prop}
theorem tup_fp {vs : Array Value} (hl : s.heap.IsTuple l vs) : l ≠ s.heap.objs.size ∧ ∀ o, ∀ b ∈ [s.heap.objs.size, l], b < (s.heap.push o).objs.size := by
  have hlt : l < s.heap.objs.size := by obtain ⟨_, e, _⟩ := hl; exact Heap.lt_size e
  refine ⟨Nat.ne_of_lt hlt, fun o b hb => ?_⟩
  rw [Heap.size_push]
  rcases List.mem_cons.mp hb with rfl | hb
  · exact Nat.lt_succ_self _
  · rcases List.mem_cons.mp hb with rfl | hb
    · exact Nat.lt_succ_of_lt hlt
    · cases hb
theorem old_keptT {h' : Heap} (hk : ∀ b o, b ∉ [s.heap.objs.size] → (s.heap.push { cls := .type "tuple_iterator", data := .fields #[.ref l, .int 0 0] }).get? b = some o → h'.get? b = some o) : ∀ b o, s.heap.get? b = some o → h'.get? b = some o := fun b o e => by
  refine hk b o (fun q => ?_) (Heap.get?_push_of_some _ e)
  have := Heap.lt_size e
  rcases List.mem_cons.mp q with rfl | q
  · exact Nat.lt_irrefl _ this
  · cases q
theorem sum_rawT (hh : A.handled = none) (hl : s.heap.IsTuple l its.toArray) (hi : IntsAre its ns)
    (h : ∀ h' tk t', (∀ b o, s.heap.get? b = some o → h'.get? b = some o) → Q (.int ns.sum t') { s with heap := h', toks := tk }) : wpAny (model prog w) A (call (.builtin "sum") [.ref l]) Q E s := by
  obtain ⟨xs, e⟩ := hi.allInts.items
  have hn : numsOf (intItems xs).toList = ns := by rw [← e]; exact hi.numsOf
  rw [nums_intItems] at hn
  rw [e] at hl
  obtain ⟨hne, hfp⟩ := tup_fp hl
  refine call_sum_walkG (wpAny_pyIter_tuple hl ?_)
  refine ⟨_, _, _, _, _, _, numAt xs, rfl, Walks.tuple (A := A.in1) hh _ l hne (intItems xs), ⟨⟨_, Heap.get?_push_size _ rfl, rfl, rfl⟩, hl.push _⟩, hfp _, (fun _ _ => intItems_at), fun h' tk t' hk => ?_⟩
  have := h h' tk t' (old_keptT hk)
  rw [preSum_eq, List.take_of_length_le (by simp [intItems]), hn]
  exact this
theorem min_rawT (hh : A.handled = none) (hl : s.heap.IsTuple l its.toArray) (hi : IntsAre its ns) (hne : 0 < ns.length)
    (h : ∀ h' tk M t', (∀ b o, s.heap.get? b = some o → h'.get? b = some o) → M ∈ ns → (∀ a, a ∈ ns → M ≤ a) → Q (.int M t') { s with heap := h', toks := tk }) : wpAny (model prog w) A (call (.builtin "min") [.ref l]) Q E s := by
  obtain ⟨xs, e⟩ := hi.allInts.items
  have hn : numsOf (intItems xs).toList = ns := by rw [← e]; exact hi.numsOf
  rw [nums_intItems] at hn
  subst hn
  rw [e] at hl
  have hsz : 0 < xs.size := by simpa using hne
  obtain ⟨hne', hfp⟩ := tup_fp hl
  refine call_min_walk (wpAny_pyIter_tuple hl ?_)
  refine ⟨_, _, _, _, _, _, _, rfl, Walks.tuple (A := A.in1) hh _ l hne' (intItems xs), ⟨⟨_, Heap.get?_push_size _ rfl, rfl, rfl⟩, hl.push _⟩, hfp _, by simpa [intItems] using hsz, CmpOf.ints_lt (numAt xs) (fun _ _ => intItems_at), fun v h' tk hP hk => ?_⟩
  have hv : (intItems xs)[argBest (fun i j => decide (numAt xs i < numAt xs j)) (xs.size - 1)]? = some v := by simpa [intItems] using hP
  obtain ⟨t, rfl⟩ := intItems_at hv
  obtain ⟨h1, h2⟩ := argBest_lt (numAt xs) (xs.size - 1)
  refine h h' tk _ t (old_keptT hk) ?_ fun a ha => ?_
  · rw [numAt_eq]; exact PySem.getD_mem (by rw [List.length_map, Array.length_toList]; omega)
  · obtain ⟨j, hj, rfl⟩ := mem_getD ha
    rw [List.length_map, Array.length_toList] at hj
    rw [← numAt_eq]; exact h2 j (by omega)
end
def rSumT (K : PySem.W.Frag) : List V → Hp → VK → Prop := fun vs H Q => ∃ (a : Addr) (ns : List Int), vs = [V.ref a] ∧ SqT K H a (ns.map V.int) ∧ Q (.int ns.sum) H
def rMinT (K : PySem.W.Frag) : List V → Hp → VK → Prop := fun vs H Q => ∃ (a : Addr) (ns : List Int), vs = [V.ref a] ∧ SqT K H a (ns.map V.int) ∧ 0 < ns.length ∧ ∀ m, m ∈ ns → (∀ y, y ∈ ns → m ≤ y) → Q (.int m) H
theorem cr_sumT {X : Cx} (hc : X.calm = true) : CallR X (.builtin "sum") (rSumT X.K) := by
  intro pins s σ H vs us Q I r h
  obtain ⟨a, ns, rfl, hs, q⟩ := h
  obtain ⟨its, rv, hl, _⟩ := I.tuple hs
  rw [Vals.ref1 r]
  exact sum_rawT (I.ok.hd hc) hl rv.ints fun h' tk t' hk => ⟨.int _, H, I.kept hk, ⟨_, rfl⟩, q⟩
theorem cr_minT {X : Cx} (hc : X.calm = true) : CallR X (.builtin "min") (rMinT X.K) := by
  intro pins s σ H vs us Q I r h
  obtain ⟨a, ns, rfl, hs, hne, q⟩ := h
  obtain ⟨its, rv, hl, _⟩ := I.tuple hs
  rw [Vals.ref1 r]
  exact min_rawT (I.ok.hd hc) hl rv.ints hne fun h' tk m t' hk h1 h2 => ⟨.int _, H, I.kept hk, ⟨_, rfl⟩, q m h1 h2⟩
def hSumT (L : Store) (x : Hd) : Option PV := match view L x with
  | some (.tup xs) => (intsOf xs).map fun ns => .int ns.sum
  | _ => none
def hMinT (L : Store) (x : Hd) : Option PV := match view L x with
  | some (.tup xs) => (intsOf xs).bind fun ns => if ns = [] then none else some (.int (minL ns))
  | _ => none
theorem c1_sumT {G : Gx} {K : PySem.W.Frag} (hK : G.K = K) : Cal1 G hSumT (rSumT K) := by
  subst hK
  intro ρ L H x v z Q t hx hz k
  unfold hSumT at hz
  cases hw : view L x with
  | none => rw [hw] at hz; cases hz
  | some vw =>
    rw [hw] at hz
    have hr := view_rep t hx hw
    cases vw with
    | tup xs =>
      obtain ⟨a, vs, rfl, ha, hs⟩ := hr
      cases hb : intsOf xs with
      | none => simp [hb] at hz
      | some bs =>
        simp only [hb, Option.map_some, Option.some.injEq] at hz
        subst hz
        have := intsOf_rep hb hs
        subst this
        exact ⟨a, bs, rfl, ha, k ρ H _ Ext.refl t rfl⟩
    | _ => cases hz
theorem c1_minT {G : Gx} {K : PySem.W.Frag} (hK : G.K = K) : Cal1 G hMinT (rMinT K) := by
  subst hK
  intro ρ L H x v z Q t hx hz k
  unfold hMinT at hz
  cases hw : view L x with
  | none => rw [hw] at hz; cases hz
  | some vw =>
    rw [hw] at hz
    have hr := view_rep t hx hw
    cases vw with
    | tup xs =>
      dsimp only at hz
      cases hp : intsOf xs with
      | none => rw [hp] at hz; cases hz
      | some ns =>
        rw [hp] at hz
        dsimp only [Option.bind] at hz
        split at hz
        · cases hz
        · rename_i hne
          cases hz
          obtain ⟨a, vs, rfl, ha, hs⟩ := hr
          have := intsOf_rep hp hs
          subst this
          exact ⟨a, ns, rfl, ha, List.length_pos_iff.mpr hne, fun m h1 h2 => k ρ H _ Ext.refl t (by rw [minL_eq h1 h2]; rfl)⟩
    | _ => cases hz
section
variable {X : Cx} {c : FC} {e : Expr} {f : FF Hd} {p pos : Pos}
theorem ev_sumT (hc : X.calm = true) (hg : Gl X "sum") (hm : X.mg "sum" = none) (ha : HV X c e f) (he : starEach (e :: []) X.env = (false, eval e X.env) :: starEach [] X.env := by rfl) : EV X c (.Call (.Name "sum" p) [e] [] pos) (eCall1 hSumT f) :=
  ev_cB (cr_sumT hc) (c1_sumT rfl) hg hm (by decide +kernel) ha (by decide) (by decide) he
theorem ev_minT (hc : X.calm = true) (hg : Gl X "min") (hm : X.mg "min" = none) (ha : HV X c e f) (he : starEach (e :: []) X.env = (false, eval e X.env) :: starEach [] X.env := by rfl) : EV X c (.Call (.Name "min" p) [e] [] pos) (eCall1 hMinT f) :=
  ev_cB (cr_minT hc) (c1_minT rfl) hg hm (by decide +kernel) ha (by decide) (by decide) he
end
section
variable {L : Store} {xs : List PV}
@[simp] theorem hSumT_t : hSumT L (.v (.tup xs)) = (intsOf xs).map fun ns => .int ns.sum := rfl
@[simp] theorem hMinT_t : hMinT L (.v (.tup xs)) = (intsOf xs).bind fun ns => if ns = [] then none else some (.int (minL ns)) := rfl
end
end Fx

set_option Elab.async false
set_option linter.all false
set_option maxRecDepth 100000
set_option maxHeartbeats 4000000
/-! Fx part 38: a tuple of one int, so many times, once too. -/
namespace L2
open PySem PySem.Spec PyProof.Rows
theorem tuple_mul1 (l : Addr) (items : Array Value) (n : Nat) (dd : Option Addr) (sl : Array (Option Value)) (u : Tok) :
    Meets (Builtin.«tuple.__mul__» ⟨[.ref l, .int 1 u], []⟩) (fun _ R s => s.heap.get? l = some { cls := .type "tuple", dict := dd, data := .seq items n, slots := sl } ∧
      R (.ok (.ret (Value.ref l))) s) :=
  .of_wp fun prog w A R s h => by
    obtain ⟨hp, g, d, tk, os⟩ := s
    obtain ⟨hl, h⟩ := h
    have f1 := AutoSeq1.idx_int
    have c0 : (decide ((1 : Int) < -(2 ^ 63)) || decide ((1 : Int) ≥ 2 ^ 63)) = false := by decide
    wp_walk using wpAny_loadPart' hl
    exact ⟨_, rfl, h⟩
def rRepU (K : PySem.W.Frag) : R2 := fun x y H Q => (∃ l xs, x = .ref l ∧ y = .int 1 ∧ SqT K H l xs ∧ Q (.ref l) H) ∨ rRepT K x y H Q
theorem op_repU {X : Cx} : OpR X (binaryOp .Mult) (rRepU X.K) := by
  intro pins s σ H x y v u Q I rx ry h
  rcases h with ⟨l, xs, rfl, rfl, hT, q⟩ | h
  · cases rx
    obtain ⟨t, rfl⟩ := ry
    obtain ⟨its, r, ⟨⟨cls, dd, data, sl⟩, ho, hc, n, hd⟩, hs⟩ := I.tuple hT
    simp only at hc hd
    subst hc hd
    refine wpAny_binaryOp_repeat_ref (T := "tuple") (U := "int") (by decide) ⟨_, ho, rfl⟩ (fun s' => typeIs_int s' 1 t) noFill_tuple_mul F.fills_int_mul F.slot_int_rmul repeat_tuple F.slot_int_index.lookup
      (call_meets F.slot_int_rmul (typeIs_int s 1 t) F.entry_int_rmul (F.args_int_rmul_2 _ _) (int_rmul_tuple 1 t l its.toArray n dd sl)
        ⟨ho, rfl, ⟨_, ho, rfl⟩, call_meets F.slot_tuple_mul ⟨_, ho, rfl⟩ F.entry_tuple_mul (F.args_tuple_mul_2 _ _) (tuple_mul1 l its.toArray n dd sl t) ⟨ho, ?_⟩⟩)
    exact ⟨.ref l, H, I, rfl, q⟩
  · exact op_repT pins s σ H x y v u Q I rx ry h
end L2
namespace Fx
open PySem L2
/-- (..) * n, of ints, n from one on -/
def hRepU (kt : Bool) : PV → PV → Option PV
  | .tup xs, .int k => if k = 1 then some (.tup xs) else hRepT kt (.tup xs) (.int k)
  | _, _ => none
theorem o2_repU {G : Gx} {K : PySem.W.Frag} (hK : G.K = K) : Op2 G (hRepU G.kt) (rRepU K) := by
  have h0 := o2_repT hK
  subst hK
  intro ρ L H x y z v w Q t hx hy hz k
  unfold hRepU at hz
  split at hz
  · rename_i xs n
    split at hz
    · rename_i h1
      subst h1
      cases hz
      obtain ⟨a, vs, rfl, ha, hs⟩ := hx
      obtain rfl : w = .int 1 := hy
      exact .inl ⟨a, vs, rfl, rfl, KTup.sq ha, k ρ H _ Ext.refl t ⟨a, vs, rfl, ha, hs⟩⟩
    · exact .inr (h0 ρ L H _ _ z v w Q t hx hy hz k)
  · cases hz
section
variable {X : Cx} {c : FC} {a b : Expr} {f g : EF} {pos : Pos}
theorem ev_repU {kt : Bool} (hk : c.kt = kt) (ha : EV X c a f) (hb : EV X c b g) : EV X c (.BinOp a .Mult b pos) (eOp (hRepU kt) f g) := by
  subst hk
  exact ev_op op_repU (o2_repU rfl) ha hb
end
@[simp] theorem hRepU_i {kt : Bool} {xs : List PV} {k : Int} : hRepU kt (.tup xs) (.int k) = if k = 1 then some (.tup xs) else hRepT kt (.tup xs) (.int k) := rfl
end Fx

set_option Elab.async false
set_option linter.all false
set_option maxRecDepth 100000
set_option maxHeartbeats 1000000
/-! Fx part 39: calls that leave a keyword-only argument to its default. -/
namespace Fx
open PySem L2
theorem ev_clD {X : Cx} {c : FC} {kt : Bool} {k n : Nat} {f : Addr} {fd : FuncData} {ps : List Str} {g : DS} {x : Str} {p pos : Pos} {e : Expr} {es : List Expr} {fa : AF} {i : Int} (hk : c.kt = kt) (F : FnOk X.prog X.w X.K X.mg X.base CX0 k f fd ps (spG (gx X kt) n g)) (hsf : Safe g) (hr : Room k X.A) (hg : Gl X x) (hm : X.mg x = some (.ref f)) (hkp : PySem.W.keepIn X.K (.ref f) = true) (hb : ∃ t, Binds X.K fd ps [.int i t])
    (ha : AV X c (e :: es) fa) (hdb : (x == ("__debug__" : Str)) = false := by decide) (he : starEach (e :: es) X.env = (false, eval e X.env) :: starEach es X.env := by rfl) (hpl : (backTo pos (starEach es X.env)).any (·.1) = false := by rfl) :
    EV X c (.Call (.Name x p) (e :: es) [] pos) (eCall n g fa [.int i]) := by
  subst hk
  obtain ⟨t, hb⟩ := hb
  exact ev_callD (dvs := [.int i]) (dps := [.int i]) F hsf hr hg hm hkp hb (.cons ⟨t, rfl⟩ .nil) (fun ρ H => reps_ints [i]) ha hdb he hpl
end Fx

set_option Elab.async false
set_option linter.all false
set_option maxRecDepth 100000
set_option maxHeartbeats 1000000
/-! Fx part 40: min of a list of alike data (pairs, tuples within them). -/
namespace Fx
open PySem L2
section
open PySem.W PySem.SeqAt PyProof.Rows
variable {prog : Program} {w : World} {A : Around} {E : Value → Shared → Prop} {s : Shared}
/-- the place of the first of the least -/
def bestD (ds : List PyData) : Nat := argBest (fun i j => dataLt (ds.getD i .none) (ds.getD j .none)) (ds.length - 1)
theorem min_rawD {l : Addr} {vs : Array Value} {x : PyData} {xs : List PyData} {as : List Addr} {Q : Value → Shared → Prop} (hh : A.handled = none) (hl : s.heap.IsList l vs) (hr : ReadsAll s.heap vs.toList (x :: xs) as) (ha : AlikeAll (x :: xs)) (hu : A.units + 1 + PyData.depthAll (x :: xs) < cLine)
    (h : ∀ v h' tk, vs[bestD (x :: xs)]? = some v → (∀ b o, s.heap.get? b = some o → h'.get? b = some o) → Q v { s with heap := h', toks := tk }) :
    wpAny (model prog w) A (call (.builtin "min") [.ref l]) Q E s := by
  have hn : vs.size = xs.length + 1 := readsAll_len hr
  refine call_min_walkH (iter_listW (A := A.in1) hh hl fun s₂ e W st hfp hw hk => ?_)
  refine ⟨_, _, _, _, _, _, _, s.heap, _, rfl, W, st, hfp, by omega, hw, hk, cmpIn_lt (A := A.in1) hr ha (by show A.units + 1 + _ < _; exact hu), fun v s' hP m => ?_⟩
  obtain ⟨h', tk, rfl, hk'⟩ := moved_old e rfl m
  have e1 : vs.size - 1 = (x :: xs).length - 1 := by rw [List.length_cons]; omega
  rw [e1] at hP
  exact h v h' tk hP hk'
end
def rMinD (K : PySem.W.Frag) : List V → Hp → VK → Prop := fun vs H Q => ∃ (a : Addr) (us : List V) (d : PyData) (ds : List PyData), vs = [V.ref a] ∧ SqL K H a us ∧ DpAll K H us (d :: ds) ∧ PySem.W.AlikeAll (d :: ds) ∧ PyData.depthAll (d :: ds) ≤ 62 ∧ ∀ v, us[bestD (d :: ds)]? = some v → Q v H
theorem vals_get : ∀ {xs : List V} {us : List Value}, Vals xs us → ∀ (i : Nat) (u : Value), us[i]? = some u → ∃ v, xs[i]? = some v ∧ RelV v u
  | _, _, .nil, i, u, h => by simp at h
  | _, _, .cons r t, 0, u, h => by
    have e := Option.some.inj (show some _ = some u from h)
    subst e
    exact ⟨_, rfl, r⟩
  | _, _, .cons r t, i + 1, u, h => by
    obtain ⟨v, h1, h2⟩ := vals_get t i u (by simpa using h)
    exact ⟨v, by simpa using h1, h2⟩
theorem cr_minD {X : Cx} (hc : X.calm = true) (hu : X.A.units + 64 < cLine) : CallR X (.builtin "min") (rMinD X.K) := by
  intro pins s σ H vs us Q I r h
  obtain ⟨a, xs, d, ds, rfl, hs, hd, hal, hdp, q⟩ := h
  obtain ⟨its, rv, hl, _⟩ := I.list hs
  obtain ⟨as, hr⟩ := Dp.readsAll I (d :: ds) xs its hd rv
  rw [Vals.ref1 r]
  refine min_rawD (I.ok.hd hc) hl.isList (by simpa using hr) hal (by omega) fun u h' tk hb hk => ?_
  obtain ⟨v, hv, rvu⟩ := vals_get rv _ u (by simpa using hb)
  exact ⟨v, H, I.kept hk, rvu, q v hv⟩
/-- they can be compared with one another -/
def alkB (ds : List PyData) : Bool := ds.all fun a => ds.all (fun b => PySem.W.alike a b) && (match a with
  | .none => false
  | _ => true)
theorem alkB_ok {ds : List PyData} (h : alkB ds = true) : PySem.W.AlikeAll ds := by
  unfold alkB at h
  rw [List.all_eq_true] at h
  refine ⟨fun x hx y hy => ?_, fun x hx e => ?_⟩
  · have := h x hx
    rw [Bool.and_eq_true, List.all_eq_true] at this
    exact this.1 y hy
  · subst e
    have := h _ hx
    simp at this
def hMinD (L : Store) (x : Hd) : Option PV := match view L x with
  | some (.lst (y :: ys)) => if dOks 62 (y :: ys) = true ∧ alkB (toDs (y :: ys)) = true then (y :: ys)[bestD (toDs (y :: ys))]? else none
  | _ => none
theorem c1_minD {G : Gx} {K : PySem.W.Frag} (hK : G.K = K) : Cal1 G hMinD (rMinD K) := by
  subst hK
  intro ρ L H x v z Q t hx hz k
  unfold hMinD at hz
  cases hw : view L x with
  | none => rw [hw] at hz; cases hz
  | some vw =>
    rw [hw] at hz
    have hr := view_rep t hx hw
    cases vw with
    | lst xs =>
      cases xs with
      | nil => cases hz
      | cons y ys =>
        dsimp only at hz
        split at hz
        · rename_i hc
          obtain ⟨a, vs, rfl, ha, hs⟩ := hr
          refine ⟨a, vs, toD y, toDs ys, rfl, .inl ha, reps_dp hc.1 hs, alkB_ok hc.2, (toDs_lay hc.1).2, fun u hu => ?_⟩
          obtain ⟨x', h1, h2⟩ := hs.get' hu
          have : toDs (y :: ys) = toD y :: toDs ys := rfl
          rw [← this, hz] at h1
          cases h1
          exact k ρ H _ Ext.refl t h2
        · cases hz
    | _ => cases hz
theorem ev_minD {X : Cx} {c : FC} {e : Expr} {f : FF Hd} {p pos : Pos} (hc : X.calm = true) (hu : X.A.units + 64 < cLine) (hg : Gl X "min") (hm : X.mg "min" = none) (ha : HV X c e f) (he : starEach (e :: []) X.env = (false, eval e X.env) :: starEach [] X.env := by rfl) : EV X c (.Call (.Name "min" p) [e] [] pos) (eCall1 hMinD f) :=
  ev_cB (cr_minD hc hu) (c1_minD rfl) hg hm (by decide +kernel) ha (by decide) (by decide) he
/-! ### pairs of a number and a tuple of numbers -/
theorem toDs_map {α : Type} (f : α → PV) : ∀ xs : List α, toDs (xs.map f) = xs.map fun x => toD (f x)
  | [] => rfl
  | x :: xs => by
    show toD (f x) :: toDs (xs.map f) = _
    rw [toDs_map f xs]
    rfl
theorem alikeAll_ints : ∀ xs ys : List Int, PySem.W.alikeAll (xs.map PyData.int) (ys.map PyData.int) = true
  | [], _ => by simp [PySem.W.alikeAll]
  | _ :: _, [] => by simp [PySem.W.alikeAll]
  | x :: xs, y :: ys => by simp [PySem.W.alikeAll, PySem.W.alike, alikeAll_ints xs ys]
/-- a number and a tuple of numbers -/
def nipP (p : Int × List Int) : PV := .tup [.int p.1, .tup (p.2.map PV.int)]
theorem nip_D (p : Int × List Int) : toD (nipP p) = .tuple [.int p.1, .tuple (p.2.map PyData.int)] := by
  show PyData.tuple [.int p.1, .tuple (toDs (p.2.map PV.int))] = _
  rw [toDs_map]
  rfl
theorem nip_alike (p q : Int × List Int) : PySem.W.alike (toD (nipP p)) (toD (nipP q)) = true := by
  rw [nip_D, nip_D]
  simp [PySem.W.alike, PySem.W.alikeAll, alikeAll_ints]
theorem nip_dOk (p : Int × List Int) (n : Nat) : dOk (n + 2) (nipP p) = true := by
  have h : dOks n (p.2.map PV.int) = true := dOks_of fun y hy => by
    obtain ⟨c, _, rfl⟩ := List.mem_map.mp hy
    cases n <;> rfl
  show dOks (n + 1) [.int p.1, .tup (p.2.map PV.int)] = true
  simp [dOks, dOk, h]
theorem nip_lt {p q : Int × List Int} (h : p.1 < q.1) : PySem.W.dataLt (toD (nipP p)) (toD (nipP q)) = true := by
  have h1 : ¬ p.1 = q.1 := by omega
  rw [nip_D, nip_D, PySem.W.dataLt_pair (by simp [PySem.W.alike]) (by simp [PySem.W.alike, alikeAll_ints])]
  simp [PyData.eqv, h1, PySem.W.dataLt_int, h]
theorem nip_nlt {p q : Int × List Int} (h : q.1 < p.1) : PySem.W.dataLt (toD (nipP p)) (toD (nipP q)) = false := by
  have h1 : ¬ p.1 = q.1 := by omega
  have h2 : ¬ p.1 < q.1 := by omega
  rw [nip_D, nip_D, PySem.W.dataLt_pair (by simp [PySem.W.alike]) (by simp [PySem.W.alike, alikeAll_ints])]
  simp [PyData.eqv, h1, PySem.W.dataLt_int]
  omega
theorem fold_min {α : Type} (lt : α → α → Bool) (k : α → Int) (h1 : ∀ p q, k p < k q → lt p q = true) (h2 : ∀ p q, k q < k p → lt p q = false) : ∀ (xs : List α) (x : α), (xs.foldl (fun a y => if lt y a then y else a) x) ∈ x :: xs ∧ ∀ y ∈ x :: xs, k (xs.foldl (fun a y => if lt y a then y else a) x) ≤ k y
  | [], x => ⟨by simp, fun y hy => by simp at hy; rw [hy]; exact Int.le_refl _⟩
  | z :: xs, x => by
    rw [List.foldl_cons]
    obtain ⟨i1, i2⟩ := fold_min lt k h1 h2 xs (if lt z x then z else x)
    have hz : k (if lt z x then z else x) ≤ k z ∧ k (if lt z x then z else x) ≤ k x := by
      cases hl : lt z x with
      | true =>
        have : ¬ k x < k z := fun h => by rw [h2 z x h] at hl; cases hl
        simp; omega
      | false =>
        have : ¬ k z < k x := fun h => by rw [h1 z x h] at hl; cases hl
        simp; omega
    have i3 := i2 _ List.mem_cons_self
    refine ⟨?_, fun y hy => ?_⟩
    · rcases List.mem_cons.mp i1 with e | e
      · rw [e]; split <;> simp
      · simp [e]
    · rcases List.mem_cons.mp hy with e | hy
      · subst e; omega
      · rcases List.mem_cons.mp hy with e | hy
        · subst e; omega
        · exact i2 y (List.mem_cons_of_mem _ hy)
theorem hMinD_nip {L : Store} {ps : List (Int × List Int)} (h : ps ≠ []) : ∃ q ∈ ps, hMinD L (.v (.lst (ps.map nipP))) = some (nipP q) ∧ ∀ p ∈ ps, q.1 ≤ p.1 := by
  cases ps with
  | nil => exact absurd rfl h
  | cons x xs =>
    have hl : (toDs ((x :: xs).map nipP)).length - 1 = xs.length := by rw [toDs_map]; simp
    have hg : ∀ i, (toDs ((x :: xs).map nipP)).getD i .none = if h : i < (x :: xs).length then toD (nipP (x :: xs)[i]) else .none := fun i => by
      rw [toDs_map]
      by_cases hi : i < (x :: xs).length
      · simp only [List.getD_eq_getElem?_getD, List.getElem?_map, List.getElem?_eq_getElem hi, dif_pos hi]
        rfl
      · rw [dif_neg hi, List.getD_eq_getElem?_getD, List.getElem?_eq_none (by rw [List.length_map]; omega)]
        rfl
    -- the place, by the pairs
    have hb : ∀ k, k ≤ xs.length → PySem.argBest (fun i j => PySem.W.dataLt ((toDs ((x :: xs).map nipP)).getD i .none) ((toDs ((x :: xs).map nipP)).getD j .none)) k = PySem.argBest (fun i j => PySem.W.dataLt (toD (nipP ((x :: xs).getD i x))) (toD (nipP ((x :: xs).getD j x)))) k := by
      intro k
      induction k with
      | zero => intro _; rfl
      | succ k ih =>
        intro hk
        have e := ih (by omega)
        have hle := (PySem.W.argBest_fold (fun p q => PySem.W.dataLt (toD (nipP p)) (toD (nipP q))) x x xs k (by omega)).1
        unfold PySem.argBest
        rw [e]
        generalize PySem.argBest (fun i j => PySem.W.dataLt (toD (nipP ((x :: xs).getD i x))) (toD (nipP ((x :: xs).getD j x)))) k = b at hle ⊢
        have h1 : k + 1 < (x :: xs).length := by simp; omega
        have h2 : b < (x :: xs).length := by simp; omega
        rw [hg, hg, dif_pos h1, dif_pos h2]
        have g1 : (x :: xs).getD (k + 1) x = (x :: xs)[k + 1] := by rw [List.getD_eq_getElem?_getD, List.getElem?_eq_getElem h1]; rfl
        have g2 : (x :: xs).getD b x = (x :: xs)[b] := by rw [List.getD_eq_getElem?_getD, List.getElem?_eq_getElem h2]; rfl
        rw [g1, g2]
    have hbest : bestD (toDs ((x :: xs).map nipP)) = PySem.argBest (fun i j => PySem.W.dataLt (toD (nipP ((x :: xs).getD i x))) (toD (nipP ((x :: xs).getD j x)))) xs.length := by
      unfold bestD
      rw [hl]
      exact hb _ (Nat.le_refl _)
    obtain ⟨f1, f2⟩ := PySem.W.argBest_fold (fun p q => PySem.W.dataLt (toD (nipP p)) (toD (nipP q))) x x xs xs.length (Nat.le_refl _)
    rw [List.take_length] at f2
    obtain ⟨m1, m2⟩ := fold_min (fun p q => PySem.W.dataLt (toD (nipP p)) (toD (nipP q))) (fun p => p.1) (fun p q => nip_lt) (fun p q => nip_nlt) xs x
    rw [← f2] at m1 m2
    refine ⟨_, m1, ?_, m2⟩
    have h1 : dOks 62 ((x :: xs).map nipP) = true := dOks_of fun y hy => by
      obtain ⟨c, _, rfl⟩ := List.mem_map.mp hy
      exact nip_dOk c 60
    have h2 : alkB (toDs ((x :: xs).map nipP)) = true := by
      rw [toDs_map]
      unfold alkB
      rw [List.all_eq_true]
      intro d hd
      obtain ⟨p, _, rfl⟩ := List.mem_map.mp hd
      rw [Bool.and_eq_true]
      refine ⟨List.all_eq_true.mpr fun e he => ?_, by rw [nip_D]⟩
      obtain ⟨q, _, rfl⟩ := List.mem_map.mp he
      exact nip_alike p q
    show (if dOks 62 ((x :: xs).map nipP) = true ∧ alkB (toDs ((x :: xs).map nipP)) = true then ((x :: xs).map nipP)[bestD (toDs ((x :: xs).map nipP))]? else none) = _
    rw [if_pos ⟨h1, h2⟩, hbest]
    generalize PySem.argBest (fun i j => PySem.W.dataLt (toD (nipP ((x :: xs).getD i x))) (toD (nipP ((x :: xs).getD j x)))) xs.length = b at f1
    have hbl : b < (x :: xs).length := by simp; omega
    rw [List.getElem?_map, List.getElem?_eq_getElem hbl, List.getD_eq_getElem?_getD, List.getElem?_eq_getElem hbl]
    rfl
end Fx

set_option Elab.async false
set_option linter.all false
set_option maxRecDepth 100000
set_option maxHeartbeats 1000000
/-! Fx part 41: dict comprehensions whose keys are tuples. -/
namespace Fx
open PySem L2
section
variable {X : Cx}
/-- an entry laid into a dict of tuple keys -/
theorem layT {Y : Cx} {pins : List (Addr × Obj)} {σ : St} {H : Hp} {s : Shared} {E : Value → Shared → Prop} {D b : Addr} {kvs : List (List Key × V)} {k : List Key} {z : V} {u r : Value} {Q : Unit → Shared → Prop} (hu : Y.A.units + 1 < cLine)
    (I : Inv Y pins σ H s) (hD : H D = some (.dT kvs)) (hb : H b = some (.tup (k.map kV))) (hz : kvs.length < sizeLine) (ru : RelV (.ref b) u) (rr : RelV z r)
    (h : ∀ s', Inv Y pins σ (upd H D (.dT (putK kvs k z))) s' → Q () s') : wpAny (model Y.prog Y.w) Y.A (dictSet D u r) Q E s := by
  obtain rfl : u = Value.ref b := ru
  obtain ⟨hle, hsys, xs, hkt, hdo⟩ := dt_of I.hok hD
  have hx : xs.length ≤ sizeLine := by rw [← Paired.length hkt]; exact hle
  have hp : (putK kvs k z).length ≤ sizeLine := by have := length_putK kvs k z; omega
  refine wpAny_dictSet_heap (hsz := hx) (show (tupleKind (mixKind Y.prog Y.w)).room Y.A from by show Y.A.units < cLine; omega) (key_of I.hok hb) hdo fun h' ⟨ob, es, ep, g1, g2, g3, g4, _, g5⟩ sb => h _ ?_
  have new : ObjOk Y.prog Y.w (upd H D (.dT (putK kvs k z))) h' D (.dT (putK kvs k z)) := ⟨hp, hsys, _, (hkt.put k hb rr).keeps fun q ys eq => by
    rw [upd_ne (ne_of eq hD (fun e => nomatch e))]
    exact eq, ob, es, ep, g1, g2, g3, g4, g5⟩
  exact I.write (x := D) (e := D) (by rw [hD]; exact True.intro) (.inl rfl) (fun q w hq eq => (sb.2 q hq).trans eq) ⟨ob, g1⟩ new
/-- {k: v for ..} with tuple keys: D the new dict -/
def tDt (wi : TI) (g : TG) (tt : TT) (tk tv : TE) (vs : List Nat) : TE := fun σ H Q => wi σ H fun J H1 => ∀ D, H1 D = none →
  ∃ W : Nat → Nat → Hp → Prop, (∃ m, W 0 m (upd H1 D (.dT []))) ∧ ∀ i m G, W i m G → (J.stop i G ∧ Q (.ref D) G) ∨
    (J.go i G ∧ ∃ Nx : Hp → Prop, (∀ G', Nx G' → ∃ m', m' < m ∧ W (i + 1) m' G') ∧
      ∀ x G', J.yld i G x G' → g x (wipe σ vs) G' fun σ2 G2 => wipe σ2 vs = wipe σ vs ∧ tt σ2 G2 fun b G3 => if b = true then
        tk σ2 G3 fun y G4 => tv σ2 G4 fun z G5 => ∃ kvs k q, y = .ref q ∧ G5 q = some (.tup (k.map kV)) ∧ G5 D = some (.dT kvs) ∧ kvs.length < sizeLine ∧ Nx (upd G5 D (.dT (putK kvs k z)))
        else Nx G3)
section
variable {kx vx tg iter : Expr} {ifs : List Expr} {scope : Scope} {own : List (Str × Nat)} {pos : Pos} {wi : TI} {g : TG} {tt : TT} {tk tv : TE}
/-- the block of a comprehension, made at (s, H) -/
abbrev Bk (X : Cx) (scope : Scope) (s : Shared) (H : Hp) (cl : List (Str × Addr)) (C : Addr) (fp : List Addr) : Cx := X.blk s H scope (compEnvC scope cl C X.env) fp
structure DtIn (X : Cx) (kx vx tg iter : Expr) (ifs : List Expr) (scope : Scope) (own : List (Str × Nat)) (wi : TI) (g : TG) (tt : TT) (tk tv : TE) : Prop where
  calm : X.calm = true
  room : X.A.units + 1 < cLine
  nd : X.N.Nodup
  it : PI X tg iter wi
  blk : BlkOk X.N X.env.scope scope own
  tgt : ∀ s H C cl fp, PG (Bk X scope s H cl C fp) tg g
  cnd : ∀ s H C cl fp, PTs (Bk X scope s H cl C fp) ifs tt
  key : ∀ s H C cl fp, PE (Bk X scope s H cl C fp) kx tk
  val : ∀ s H C cl fp, PE (Bk X scope s H cl C fp) vx tv
  fold : ∀ x, foldedSetIterable iter X.env x = pure x
/-- one turn and what follows it -/
theorem dt_loop (B : DtIn X kx vx tg iter ifs scope own wi g tt tk tv) {σ : St} {H1 : Hp} {s1 : Shared} {cl : List (Str × Addr)} {C D : Addr} {fp : List Addr} {it : Addr} {J : It} {tn : Nat → Heap → Prop} {W : Nat → Nat → Hp → Prop} {Qd : Hp → Prop} {R : Result → Shared → Prop}
    (T : Turn X.prog X.w X.K tg J fp it tn)
    (tr : ∀ i m G, W i m G → (J.stop i G ∧ Qd G) ∨ (J.go i G ∧ ∃ Nx : Hp → Prop, (∀ G', Nx G' → ∃ m', m' < m ∧ W (i + 1) m' G') ∧
      ∀ x G', J.yld i G x G' → g x (wipe σ (own.map (·.2))) G' fun σ2 G2 => wipe σ2 (own.map (·.2)) = wipe σ (own.map (·.2)) ∧ tt σ2 G2 fun b G3 => if b = true then
        tk σ2 G3 fun y G4 => tv σ2 G4 fun z G5 => ∃ kvs k q, y = .ref q ∧ G5 q = some (.tup (k.map kV)) ∧ G5 D = some (.dT kvs) ∧ kvs.length < sizeLine ∧ Nx (upd G5 D (.dT (putK kvs k z)))
        else Nx G3))
    (stay : ∀ {σ' : St} {G : Hp} {s : Shared}, Inv (Bk X scope s1 H1 cl C fp) [] σ' G s → (∀ b ∈ fp, G b = none) → ∀ b ∈ fp, FpOk (Bk X scope s1 H1 cl C fp) [] G b)
    (fin : ∀ G s, Inv (Bk X scope s1 H1 cl C fp) [] (wipe σ (own.map (·.2))) G s → Qd G → R (.ok .next) s) {m0 : Nat} {G0 : Hp} {s0 : Shared}
    (I0 : Inv (Bk X scope s1 H1 cl C fp) [] (wipe σ (own.map (·.2))) G0 s0) (t0 : tn 0 s0.heap) (n0 : ∀ b ∈ fp, G0 b = none) (w0 : W 0 m0 G0) :
    codeAny (model X.prog X.w) X.A (.compLoop (.DictComp kx vx [⟨tg, iter, ifs, 0⟩] scope pos) 0 (.ref it) (.ref D) (compEnvC scope cl C X.env)) R s0 := by
  refine compLoop_anyD (fun n s => ∃ i G, Inv (Bk X scope s1 H1 cl C fp) [] (wipe σ (own.map (·.2))) G s ∧ tn i s.heap ∧ (∀ b ∈ fp, G b = none) ∧ W i n G) (fun n sa ⟨i, Ga, Ia, ta, na, wa⟩ => ?_) m0 ⟨0, G0, I0, t0, n0, w0⟩
  rcases tr i n Ga wa with ⟨hstop, hq⟩ | ⟨hgo, Nx, hNx, hstep⟩
  · refine thnF (T.done (Bk X scope s1 H1 cl C fp) rfl rfl rfl B.calm i [] sa _ Ga (fun _ _ => False) Ia (stay Ia na) ta hstop) fun r sb ⟨er, Ib⟩ => ?_
    subst er
    exact fin Ga sb Ib hq
  · refine thnF (T.item (Bk X scope s1 H1 cl C fp) rfl rfl rfl B.calm i [] sa _ Ga (fun _ _ => False) Ia (stay Ia na) ta hgo) fun r sb ⟨u, er, hb⟩ => ?_
    subst er
    refine thnF hb fun _ sc ⟨x, Gc, Ic, rx, yx, tc, nc⟩ => ?_
    have Icp := Ic.pinned (stay Ic nc) (T.obj _ _ tc)
    refine thnF ((B.tgt s1 H1 C cl fp).run _ sc _ Gc x u _ Icp rx (hstep x Gc yx)) fun _ sd ⟨σd, Gd, Id, hwd, qd⟩ => ?_
    refine thnF ((B.cnd s1 H1 C cl fp).run _ sd σd Gd _ Id qd) fun b se ⟨Ge, Ie, qe⟩ => ?_
    have onward : ∀ {s' : Shared} {G' : Hp}, Inv (Bk X scope s1 H1 cl C fp) ([] ++ pinsAt fp sc.heap) σd G' s' → Nx G' → ∃ m, m < n ∧ ∃ i G, Inv (Bk X scope s1 H1 cl C fp) [] (wipe σ (own.map (·.2))) G s' ∧ tn i s'.heap ∧ (∀ b ∈ fp, G b = none) ∧ W i m G := fun {s' G'} I' hn => by
      obtain ⟨m', hlt, hw⟩ := hNx G' hn
      have held : ∀ b ∈ fp, ∀ o, sc.heap.get? b = some o → s'.heap.get? b = some o ∧ G' b = none := fun b hb o e => by
        have h3 := I'.pin (b, o) (List.mem_append_right _ (List.mem_append_right _ (mem_pinsAt hb e)))
        exact ⟨h3.1, h3.2.1⟩
      refine ⟨m', hlt, i + 1, G', ?_, T.keep _ _ _ tc fun b hb o e => (held b hb o e).1, fun b hb => ?_, hw⟩
      · refine (I'.unpinned (pins := [])).weak (by rw [← hwd, wipe_length]) fun j v e => ?_
        rw [← hwd] at e
        exact (wipe_some e).1
      · obtain ⟨o, e, _⟩ := T.obj _ _ tc b hb
        exact (held b hb o e).2
    cases b with
    | false => exact onward Ie qe
    | true =>
      refine thnF ((B.key s1 H1 C cl fp).run _ se σd Ge _ Ie qe) fun yk sf ⟨y, Gf, If, ry, qf⟩ => ?_
      refine thnF ((B.val s1 H1 C cl fp).run _ sf σd Gf _ If qf) fun zk sg ⟨z, Gg, Ig, rz, kvs, k, q, ey, hq, hD, hsz, hnx⟩ => ?_
      subst ey
      exact layT (Y := Bk X scope s1 H1 cl C fp) B.room Ig hD hq hsz ry rz fun sh Ih => onward Ih hnx
theorem dt_core (B : DtIn X kx vx tg iter ifs scope own wi g tt tk tv) {pins : List (Addr × Obj)} {s : Shared} {σ : St} {H : Hp} {Q : VK} {pos' : Pos} {use : Option (Value → Sem Unit)} {Qf : Value → Shared → Prop} (I : Inv X pins σ H s) (h : tDt wi g tt tk tv (own.map (·.2)) σ H Q)
    (post : ∀ D C s' m G, Inv X pins σ G s' → Q (.ref D) G → s'.heap.Ns C m → FpOk X pins G C → compPost (model X.prog X.w) X.A X.xe use Qf (.ref D) C (.ok .next) s') :
    wpAny (model X.prog X.w) X.A (comprehension (.DictComp kx vx [⟨tg, iter, ifs, 0⟩] scope pos) scope X.env pos' newDict false (eval iter X.env) use) Qf X.xe s := by
  have hcell : ∀ y ∈ scope.names, y.2 = .free → ∃ c, X.env.cells.lookup y.1 = some c := fun y hy e => (B.blk.free y hy e).elim (fun k => I.ok.has _ (.inl k)) fun k => I.ok.has _ (.inr k)
  refine wpAny_comprehension_free (use := use) rfl B.fold (closure_ok hcell) B.blk.kind (fun y hy e => by rw [B.blk.uniq y hy, e]) ?_
  refine thn (B.it.run pins s σ H _ I h) fun itx sa hx => thn hx fun itv sb ⟨it, fp, tn, J, Gb, eit, Ib, T, tb, fb, qb⟩ => ?_
  subst eit
  refine wpAny_newObj_type (newEnv_comp ?_)
  obtain ⟨W, ⟨m0, w0⟩, tr⟩ := qb sb.heap.objs.size (Ib.hok.fresh (Nat.le_refl _))
  generalize hsc : ({ sb with heap := sb.heap.push { cls := .type "dict", data := .dict #[] } } : Shared) = sc
  have hch : sc.heap = sb.heap.push { cls := .type "dict", data := .dict #[] } := by rw [← hsc]
  have Ic : Inv X pins σ (upd Gb sb.heap.objs.size (.dT [])) sc := by
    have z := Ib.laid (t' := sb.toks) (a := sb.heap.objs.size) (o := .dT []) (h' := sb.heap.push { cls := .type "dict", data := .dict #[] }) (fun b o e => Heap.get?_push_of_some _ e) (Nat.le_refl _) (dt_empty sb.heap Ib.big)
    rw [← hsc]
    exact z
  have old : ∀ b ∈ fp, b < sb.heap.objs.size := fun b hb => by
    obtain ⟨o, e, _⟩ := T.obj _ _ tb b hb
    exact Heap.lt_size e
  have fc : ∀ b ∈ fp, FpOk X pins (upd Gb sb.heap.objs.size (.dT [])) b ∧ b < sc.heap.objs.size := fun b hb => by
    have hlt := old b hb
    refine ⟨⟨by rw [upd_ne (Nat.ne_of_lt hlt)]; exact (fb b hb).1, (fb b hb).2⟩, ?_⟩
    rw [hch, Heap.size_push]
    exact Nat.lt_succ_of_lt hlt
  have Id := block_start Ic B.blk B.nd fc
  have td : tn 0 (pushCells (sc.heap.push { cls := .type "dict", data := .dict #[] }) scope.names) := T.keep _ _ _ tb fun b _ o e => pushCells_keeps _ _ _ _ (Heap.get?_push_of_some _ (by rw [hch]; exact Heap.get?_push_of_some _ e))
  generalize hG : upd Gb sb.heap.objs.size (.dT []) = Gc at Ic fc Id w0
  have loop := dt_loop (R := compPost (model X.prog X.w) X.A X.xe use Qf (.ref sb.heap.objs.size) sc.heap.objs.size) (pos := pos) B T tr
    (fun {σ' G s} I' hn b hb => ⟨hn b hb, (I'.ok.exf b hb).1, I'.ok.exfs b hb, .inl hb, fun x c e => (I'.ok.exf b hb).2 x c e, fun p hp => absurd (show p ∈ ([] : List (Addr × Obj)) ++ [] from hp) (by simp)⟩)
    (fun G se Ie hq => by
      have hn : G sc.heap.objs.size = none := Ie.free
      obtain ⟨m, hns, _⟩ := Ie.loc
      exact post sb.heap.objs.size sc.heap.objs.size se m G (Ic.call' (ch := fp) Ie.os Ie.base Ie.hok Ie.bare fun b hb => ⟨(fc b hb).1.2.2.2.1, (fc b hb).1.2.1, (fc b hb).1.2.2.2.2.1, (fc b hb).1.2.2.2.2.2⟩) hq hns (Ic.fpOk (Nat.le_refl _) hn))
    Id td (fun b hb => (fc b hb).1.1) w0
  exact codeAny_compStart_dict loop (T.self X.A 0 _ _ _ td loop)
theorem pe_dt (B : DtIn X kx vx tg iter ifs scope own wi g tt tk tv) : PE X (.DictComp kx vx [⟨tg, iter, ifs, 0⟩] scope pos) (tDt wi g tt tk tv (own.map (·.2))) := by
  refine ⟨fun pins s σ H Q I h => ?_⟩
  rw [arm_eval_DictComp]
  refine dt_core B I h fun D C s' m G I' q hn ⟨f0, f1, _, f3, f4, f5⟩ => ⟨m, hn, fun h2 sb => ?_⟩
  exact ⟨.ref D, G, I'.turned (t' := s'.toks) (fun b o hb e => (sb.2 b hb).trans e) f0 f1 f3 f4 f5, rfl, q⟩
theorem ps_setDt (B : DtIn X kx vx tg iter ifs scope own wi g tt tk tv) {i : Nat} {y : Str} {py spos : Pos} (hy : X.N[i]? = some y) (hyl : X.env.scope.names.lookup y = some .local)
    (hsw : swapsWith (.DictComp kx vx [⟨tg, iter, ifs, 0⟩] scope pos) (some (.Name y py)) spos.line X.env = pure true) : PS X (.Assign [.Name y py] (.DictComp kx vx [⟨tg, iter, ifs, 0⟩] scope pos) spos) (tAsg (tDt wi g tt tk tv (own.map (·.2))) (gName i)) := by
  refine ⟨fun pins s σ H D I h => ?_⟩
  rw [exec_Assign_Name_used _ _ _ _ hsw]
  refine wpAny_bind (wpAny_standAt (wpAny_bind (wpAny_bind ?_)))
  refine thn (dt_core (Qf := fun _ s' => SP X pins D .next s') (use := some (assign (.Name y py) X.env)) B I (Q := fun x G => gName i x σ G D.nx) h fun L C s' m G I' q hn ⟨f0, f1, _, f3, f4, f5⟩ => ?_) fun _ s' hq => wpAny_pure (wpAny_pure hq)
  refine wpAny_assign_Name (store_ok2 (v := V.ref L) I' B.nd hy (.inl hyl) rfl (fun s2 I2 ⟨a, sb, ha⟩ => ?_) (.inr hyl))
  have hne : C ≠ a := ha.elim (fun z => by rw [z]; exact f1) fun z e => f4 y a z e.symm
  exact ⟨m, hn.sameBut sb hne, fun h3 sb3 => ⟨_, G, I2.turned (t' := s2.toks) (fun b o hb e => (sb3.2 b hb).trans e) f0 f1 f3 f4 f5, q⟩⟩
end
end
end Fx

set_option Elab.async false
set_option linter.all false
set_option maxRecDepth 100000
set_option maxHeartbeats 1000000
/-! Fx part 42: dict comprehensions whose keys are tuples, read. -/
namespace Fx
open PySem L2
/-- a tuple as a key -/
def keyTup (kt : Bool) : PV → Option (List Key)
  | .tup ks => if kt = false ∧ ks.isEmpty = false then keysOf ks else none
  | _ => none
theorem keyTup_rep {G : Gx} {kt : Bool} (hG : G.kt = kt) {ρ : List Addr} {H : Hp} {y : PV} {v : V} {k : List Key} (r : Rep G ρ H y v) (h : keyTup kt y = some k) : ∃ b, v = .ref b ∧ H b = some (.tup (k.map kV)) := by
  subst hG
  unfold keyTup at h
  cases y with
  | tup ks =>
    dsimp only at h
    split at h
    · rename_i hz
      obtain ⟨b, ws, rfl, hb, hs⟩ := r
      have hb := keys_plain hz.1 hz.2 h hs hb
      have := keysOf_rep hs h
      subst this
      exact ⟨b, rfl, hb⟩
    · cases h
  | _ => cases h
def dtLoop (kt : Bool) (t : TGF) (p : BF) (gk gv : EF) (s : Slots) : List PV → List (List Key × PV) → Store → Option (Res Cell)
  | [], acc, L => some (.ok (.dt acc) L)
  | x :: r, acc, L => match t x s with
    | none => none
    | some s1 => bndN (p s1 L) fun b L1 => if b = true then bndN (gk s1 L1) fun y L2 => bndN (gv s1 L2) fun z L3 => match keyTup kt y with
      | some k => if acc.length < sizeLine then dtLoop kt t p gk gv s r (put acc k z) L3 else none
      | none => none
      else dtLoop kt t p gk gv s r acc L1
def nDtComp (kt : Bool) (fi : AF) (t : TGF) (p : BF) (gk gv : EF) (vs : List Nat) : CF := fun s L => bnd (fi s L) fun xs L1 => dtLoop kt t p gk gv (wipeS s vs) xs [] L1
section
variable {X : Cx} {c : FC} {kx vx tg iter : Expr} {ifs : List Expr} {scope : Scope} {own : List (Str × Nat)} {pos : Pos} {fi : AF} {t : TGF} {ix : List Nat} {p : BF} {gk gv : EF} {raw : Bool}
def DtI (kt : Bool) (G : Gx) (W : WX) (t : TGF) (p : BF) (gk gv : EF) (s : Slots) (ρ1 : List Addr) (σ : St) (H1 : Hp) (Q : VK) (D : Addr) (xs : List PV) (i : Nat) (H : Hp) : Prop :=
  ∃ ρ L acc av, Ext ρ1 ρ H1 H ∧ Rst G ρ L H ∧ D ∉ ρ ∧ H D = some (.dT av) ∧ DRep G ρ H acc av ∧ Ou G (RN G) W ρ1 σ H1 Q (dtLoop kt t p gk gv s (xs.drop i) acc L)
theorem dtcomp_read {G : Gx} {vs : List Nat} (hG : G.kt = c.kt) (hix : ∀ j ∈ ix, j ∈ vs) {σ : St} {H : Hp} {Q : VK} (q : tOf G (RN G) c.r0 c.H0 c.W (nDtComp c.kt fi t p gk gv vs) σ H Q) :
    tDt (tOf G (RI G raw) c.r0 c.H0 c.W fi) (gOf G raw c.r0 c.H0 t ix) (tOf G RB c.r0 c.H0 (fun _ _ _ _ => False) p) (tOf G (RE G) c.r0 c.H0 (fun _ _ _ _ => False) gk) (tOf G (RE G) c.r0 c.H0 (fun _ _ _ _ => False) gv) vs σ H Q := by
  refine tOf.first (R := RI G raw) (R' := RN G) (k := fun s xs L1 => dtLoop c.kt t p gk gv (wipeS s vs) xs [] L1) q fun ρ L s xs L1 ρ1 H1 J r e1 q1 o => ?_
  intro D hD
  refine ⟨fun i m H' => m = xs.length - i ∧ i ≤ xs.length ∧ DtI c.kt G c.W t p gk gv (wipeS s vs) ρ1 σ H1 Q D xs i H', ⟨xs.length, by simp, Nat.zero_le _, ρ1, L1, [], [], Ext.new hD, r.st.new hD, r.st.fresh hD, upd_same, DRep.nil, by simpa using o⟩, ?_⟩
  rintro i m Hi ⟨rfl, hi, ρ2, L2, acc, av, e2, t2, nD, aD, ra, oi⟩
  obtain ⟨y1, y2⟩ := q1 i ρ2 Hi e2.toStb
  by_cases hlt : i < xs.length
  · obtain ⟨go, yl⟩ := y1 hlt
    refine .inr ⟨go, fun H' => DtI c.kt G c.W t p gk gv (wipeS s vs) ρ1 σ H1 Q D xs (i + 1) H', fun H' h => ⟨xs.length - (i + 1), by omega, rfl, hlt, h⟩, fun x H' hy => ?_⟩
    obtain ⟨k, rx⟩ := yl x H' hy
    have R2 := (r.go e2 t2).go (Ext.same k) (t2.same k)
    have hd : xs.drop i = xs[i] :: xs.drop (i + 1) := by rw [List.drop_eq_getElem_cons hlt]
    rw [hd] at oi
    unfold dtLoop at oi
    cases ht : t xs[i] (wipeS s vs) with
    | none => rw [ht] at oi; exact oi.elim
    | some s1 =>
      rw [ht] at oi
      dsimp only at oi
      have e3 : Ext ρ1 ρ2 H1 H' := e2.trans (Ext.same k)
      have aD3 : H' D = some (.dT av) := k _ _ aD
      refine ⟨ρ2, L2, wipeS s vs, xs[i], s1, R2.wipe vs, rx, ht, fun σ1 R3 hl hj => ⟨wipe_eq (by rw [hl, wipe_length]) fun j hn => hj j fun z => hn (hix j z), ρ2, L2, s1, R3, ?_⟩⟩
      cases hp : p s1 L2 with
      | none => rw [hp] at oi; exact oi.elim
      | some a =>
        cases a with
        | err _ _ => rw [hp] at oi; exact oi.elim
        | ok b L3 =>
          rw [hp, bndN_ok] at oi
          intro ρ3 H3 b' e4 t3 hb
          obtain rfl : b = b' := hb
          have aD4 : H3 D = some (.dT av) := e4.keep _ _ nD aD3
          have nD4 : D ∉ ρ3 := e4.notin nD aD3
          have ra4 := (ra.mono (Ext.same (ρ := ρ2) k).toStb).mono e4.toStb
          cases b with
          | false =>
            rw [if_neg Bool.false_ne_true] at oi ⊢
            exact ⟨ρ3, L3, acc, av, e3.trans e4, t3, nD4, aD4, ra4, oi⟩
          | true =>
            rw [if_pos rfl] at oi ⊢
            refine ⟨ρ3, L3, s1, R3.go e4 t3, ?_⟩
            cases hg : gk s1 L3 with
            | none => rw [hg] at oi; exact oi.elim
            | some a =>
              cases a with
              | err _ _ => rw [hg] at oi; exact oi.elim
              | ok y L4 =>
                rw [hg, bndN_ok] at oi
                intro ρ5 H5 yv e5 t5 ry
                have aD5 : H5 D = some (.dT av) := e5.keep _ _ nD4 aD4
                have nD5 : D ∉ ρ5 := e5.notin nD4 aD4
                have ra5 := ra4.mono e5.toStb
                refine ⟨ρ5, L4, s1, (R3.go e4 t3).go e5 t5, ?_⟩
                cases hv : gv s1 L4 with
                | none => rw [hv] at oi; exact oi.elim
                | some a =>
                  cases a with
                  | err _ _ => rw [hv] at oi; exact oi.elim
                  | ok z L5 =>
                    rw [hv, bndN_ok] at oi
                    intro ρ6 H6 zv e6 t6 rz
                    cases hk : keyTup c.kt y with
                    | none => rw [hk] at oi; exact oi.elim
                    | some kk =>
                      rw [hk] at oi
                      dsimp only at oi
                      by_cases hz : acc.length < sizeLine
                      · rw [if_pos hz] at oi
                        have aD6 : H6 D = some (.dT av) := e6.keep _ _ nD5 aD5
                        have nD6 : D ∉ ρ6 := e6.notin nD5 aD5
                        have ra6 := ra5.mono e6.toStb
                        obtain ⟨b, eb, hb⟩ := keyTup_rep hG (ry.mono e6.toStb) hk
                        refine ⟨av, kk, b, eb, hb, aD6, by rw [← ra6.length]; exact hz, ?_⟩
                        have e7 := ((e3.trans e4).trans e5).trans e6
                        have st : Stb ρ6 ρ6 H6 (upd H6 D (.dT (putK av kk zv))) := Stb.mut aD6 trivial
                        exact ⟨ρ6, L5, put acc kk z, putK av kk zv, e7.mutNew hD aD6 trivial, t6.mutOut nD6 aD6 trivial, nD6, upd_same, (DRep.put rz ra6).mono st, oi⟩
                      · rw [if_neg hz] at oi; exact oi.elim
  · have hi' : i = xs.length := by omega
    subst hi'
    refine .inl ⟨y2 (Nat.le_refl _), ?_⟩
    rw [List.drop_length] at oi
    exact oi ρ2 Hi _ e2 t2 ⟨D, rfl, nD, hD, av, aD, ra.1, ra.2⟩
section
variable {kt : Bool} (hkt : c.kt = kt) (hc : X.calm = true) (hu : X.A.units + 1 < cLine) (hN : X.N.Nodup) (hi : IV X c raw tg iter fi) (ok : BlkOk X.N X.env.scope scope own)
    (hg : ∀ (s : Shared) (H : Hp) (C : Addr) (cl : List (Str × Addr)) (fp : List Addr), GV (X.blk s H scope (compEnvC scope cl C X.env) fp) c raw tg t ix)
    (ht : ∀ (s : Shared) (H : Hp) (C : Addr) (cl : List (Str × Addr)) (fp : List Addr), TVs (X.blk s H scope (compEnvC scope cl C X.env) fp) c.nox ifs p)
    (hk : ∀ (s : Shared) (H : Hp) (C : Addr) (cl : List (Str × Addr)) (fp : List Addr), EV (X.blk s H scope (compEnvC scope cl C X.env) fp) c.nox kx gk)
    (he : ∀ (s : Shared) (H : Hp) (C : Addr) (cl : List (Str × Addr)) (fp : List Addr), EV (X.blk s H scope (compEnvC scope cl C X.env) fp) c.nox vx gv)
include hkt hc hu hN hi ok hg ht hk he
theorem dt_in (hs : ∀ x, foldedSetIterable iter X.env x = pure x) : DtIn X kx vx tg iter ifs scope own (tOf (gx X c.kt) (RI (gx X c.kt) raw) c.r0 c.H0 c.W fi) (gOf (gx X c.kt) raw c.r0 c.H0 t ix) (tOf (gx X c.kt) RB c.r0 c.H0 (fun _ _ _ _ => False) p) (tOf (gx X c.kt) (RE (gx X c.kt)) c.r0 c.H0 (fun _ _ _ _ => False) gk) (tOf (gx X c.kt) (RE (gx X c.kt)) c.r0 c.H0 (fun _ _ _ _ => False) gv) :=
  ⟨hc, hu, hN, hi, ok, fun s H C cl fp => hg s H C cl fp, fun s H C cl fp => ht s H C cl fp, fun s H C cl fp => hk s H C cl fp, fun s H C cl fp => he s H C cl fp, hs⟩
theorem nv_dtc (hix : ∀ j ∈ ix, j ∈ own.map (·.2) := by decide) (hs : ∀ x, foldedSetIterable iter X.env x = pure x := by intro _; rfl) :
    NV X c (.DictComp kx vx [⟨tg, iter, ifs, 0⟩] scope pos) (nDtComp kt fi t p gk gv (own.map (·.2))) := by
  subst hkt
  exact pe_imp (pe_dt (dt_in rfl hc hu hN hi ok hg ht hk he hs)) fun _ _ _ q => dtcomp_read rfl hix q
theorem es_dtc {i : Nat} {y : Str} {py spos : Pos} (hy : X.N[i]? = some y) (hyl : X.env.scope.names.lookup y = some .local)
    (hsw : swapsWith (.DictComp kx vx [⟨tg, iter, ifs, 0⟩] scope pos) (some (.Name y py)) spos.line X.env = pure true)
    (hix : ∀ j ∈ ix, j ∈ own.map (·.2) := by decide) (hs : ∀ x, foldedSetIterable iter X.env x = pure x := by intro _; rfl) :
    ES X c (.Assign [.Name y py] (.DictComp kx vx [⟨tg, iter, ifs, 0⟩] scope pos) spos) (sOwn i (nDtComp kt fi t p gk gv (own.map (·.2)))) := by
  subst hkt
  refine ps_imp (ps_setDt (dt_in rfl hc hu hN hi ok hg ht hk he hs) hy hyl hsw) fun D σ H q => ?_
  refine dtcomp_read (c := c) rfl hix ?_
  refine tS.first (R := RN _) (k := fun s v L1 => some (.ok (.nx (s.set i (.own v))) L1)) q fun ρ L s v L1 ρ1 H1 u r e1 t1 q1 o => ?_
  exact o ρ1 H1 _ Stb.refl (r.ownNew e1 t1 q1 i)
end
end
section
variable {kt : Bool} {fi : AF} {gk gv : EF} {t : TGF} {p : BF} {vs : List Nat} {s : Slots} {L : Store}
@[simp] theorem nDtComp_at : nDtComp kt fi t p gk gv vs s L = bnd (fi s L) fun xs L1 => dtLoop kt t p gk gv (wipeS s vs) xs [] L1 := rfl
end
end Fx

set_option Elab.async false
set_option linter.all false
set_option maxRecDepth 100000
set_option maxHeartbeats 1000000
/-! Fx part 43: zip of a list and a tuple. -/
namespace Fx
open PySem L2 PySem.Spec PyProof.Rows
section
variable {P : Program} {w : World} {A : Around}
/-- a list's iterator that has come to its end, whatever its place -/
theorem endDrawL (hh : A.handled = none) {it l : Addr} {items : Array Value} {n : Nat} (hx : items[n]? = none) : Draws P w A it [it, l] n (fun _ _ => True) (fun k h => k = n ∧ h.IsListIter it l n ∧ h.IsList l items) where
  live := fun _ _ st => let ⟨o, ho, _⟩ := st.2.1; ⟨o, ho⟩
  frame := fun _ _ _ st hk => ⟨st.1, st.2.1.at fun o e => hk it (by simp) o e, st.2.2.at fun o e => hk l (by simp) o e⟩
  item := fun i s Q E hi st _ => absurd st.1 (Nat.ne_of_lt hi)
  done := fun s Q E st hE => wpAny_nextOf_list_end hh st.2.1 st.2.2 hx hE
theorem endDrawT (hh : A.handled = none) {it t : Addr} {items : Array Value} {n : Nat} (hx : items[n]? = none) : Draws P w A it [it, t] n (fun _ _ => True) (fun k h => k = n ∧ h.IsTupleIter it t n ∧ h.IsTuple t items) where
  live := fun _ _ st => let ⟨o, ho, _⟩ := st.2.1; ⟨o, ho⟩
  frame := fun _ _ _ st hk => ⟨st.1, st.2.1.at fun o e => hk it (by simp) o e, st.2.2.at fun o e => hk t (by simp) o e⟩
  item := fun i s Q E hi st _ => absurd st.1 (Nat.ne_of_lt hi)
  done := fun s Q E st hE => wpAny_nextOf_tuple_end hh st.2.1 st.2.2 hx hE
/-- the list at a and the tuple at b as they stand at each turn, the items in new pairs -/
def ItzM (K : PySem.W.Frag) (a b : Addr) : It :=
  ⟨fun i H => ∃ (xs ys : List V) (x y : V), SqL K H a xs ∧ SqT K H b ys ∧ xs[i]? = some x ∧ ys[i]? = some y,
    fun i H v H' => ∃ T x y, v = .ref T ∧ H T = none ∧ H' = upd H T (.tup [x, y]) ∧ (∀ xs, SqL K H a xs → xs[i]? = some x) ∧ ∀ ys, SqT K H b ys → ys[i]? = some y,
    fun i H => ∃ xs ys : List V, SqL K H a xs ∧ SqT K H b ys ∧ (xs.length ≤ i ∨ ys.length ≤ i)⟩
/-- what stands of the zip -/
def ZmSt (a b z TI TO i1 i2 : Addr) (i : Nat) (h : Heap) : Prop := IsZip h z TI TO .none ∧ IsTupOf2 h TI (.ref i1) (.ref i2) ∧ (∃ x y, IsTupOf2 h TO x y) ∧ h.IsListIter i1 a i ∧ h.IsTupleIter i2 b i
theorem zm_mem {z TI TO i1 i2 c : Addr} (h : c ∈ [z, TI, TO, i1, i2]) : c = z ∨ c = TI ∨ c = TO ∨ c = i1 ∨ c = i2 := by simpa using h
theorem zm_na {h : Heap} {a i1 : Addr} {i : Nat} {its : Array Value} (p : h.IsList a its) (h1 : h.IsListIter i1 a i) : a ≠ i1 := fun e => by
  obtain ⟨o, ho, hcl, _⟩ := p
  obtain ⟨o1, e1, c1, _⟩ := h1
  rw [e] at ho
  rw [ho] at e1
  cases e1
  rw [hcl] at c1
  injection c1 with q
  exact absurd q (by decide)
theorem zm_nb {h : Heap} {b i2 : Addr} {i : Nat} {its : Array Value} (p : h.IsTuple b its) (h1 : h.IsTupleIter i2 b i) : b ≠ i2 := fun e => by
  obtain ⟨o, ho, hcl, _⟩ := p
  obtain ⟨o1, e1, c1, _⟩ := h1
  rw [e] at ho
  rw [ho] at e1
  cases e1
  rw [hcl] at c1
  injection c1 with q
  exact absurd q (by decide)
theorem turn_zipM {K : PySem.W.Frag} {elts : List Expr} {kk : Nat} {tpos : Pos} {a b z TI TO i1 i2 : Addr} (S : ZipSep2 z TI TO i1 i2 [i1, a] [i2, b]) :
    Turn P w K (.Tuple elts kk tpos) (ItzM K a b) [z, TI, TO, i1, i2] z (ZmSt a b z TI TO i1 i2) where
  mem := by simp
  obj := fun i h ⟨hz, hTI, ⟨x, y, hTO⟩, ⟨o1, e1, _, d1⟩, ⟨o2, e2, _, d2⟩⟩ c hc => by
    rcases zm_mem hc with rfl | rfl | rfl | rfl | rfl
    · exact ⟨_, hz, fun v q => nomatch q⟩
    · exact ⟨_, hTI, fun v q => nomatch q⟩
    · exact ⟨_, hTO, fun v q => nomatch q⟩
    · exact ⟨o1, e1, fun v q => by rw [d1] at q; cases q⟩
    · exact ⟨o2, e2, fun v q => by rw [d2] at q; cases q⟩
  keep := fun i h h' ⟨hz, hTI, ⟨x, y, hTO⟩, h1, h2⟩ k => ⟨k z (by simp) _ hz, k TI (by simp) _ hTI, ⟨x, y, k TO (by simp) _ hTO⟩, h1.at fun o q => k i1 (by simp) o q, h2.at fun o q => k i2 (by simp) o q⟩
  item := by
    intro X hP hw hK hc i pins s σ H E I hf ⟨hz, hTI, hTO, h1, h2⟩ ⟨xs, ys, x, y, hqx, hqy, hx, hy⟩
    subst hP hw hK
    obtain ⟨its, rv, p, _⟩ := I.list hqx
    obtain ⟨its2, rv2, p2, _⟩ := I.tuple hqy
    obtain ⟨u, hu, ru⟩ := rv.get hx
    obtain ⟨u2, hu2, ru2⟩ := rv2.get hy
    have hi : i < min its.toArray.size its2.toArray.size := by
      have q1 := (List.getElem?_eq_some_iff.mp hu).1
      have q2 := (List.getElem?_eq_some_iff.mp hu2).1
      simp
      omega
    have Wk := GoesN.zip2 (prog := X.prog) (w := X.w) (elts := elts) (x1 := kk) (pos := tpos) S (Draws.list (A := X.A.in1) (I.ok.hd hc) i1 a (zm_na p.isList h1) its.toArray) (Draws.tuple (A := X.A.in1) (I.ok.hd hc) i2 b (zm_nb p2 h2) its2.toArray)
    refine Wk.goes i s _ _ hi ⟨hz, hTI, hTO, ⟨h1, p.isList⟩, h2, p2⟩ fun v h' tk ⟨T, v1, v2, ev, hT, g1, g2, hTup⟩ ⟨gz, gTI, gTO, ⟨g3, _⟩, g4, _⟩ hk _ => ?_
    have e1 : v1 = u := by
      have : its.toArray[i]? = some u := by simpa using hu
      rw [this] at g1; exact (Option.some.inj g1).symm
    have e2 : v2 = u2 := by
      have : its2.toArray[i]? = some u2 := by simpa using hu2
      rw [this] at g2; exact (Option.some.inj g2).symm
    subst e1 e2 ev
    obtain ⟨o, ho, hcl, nn, hdt⟩ := hTup
    have new : ObjOk X.prog X.w (upd H T (.tup [x, y])) h' T (.tup [x, y]) := ⟨by show 2 ≤ sizeLine; decide, [v1, v2], .cons ru (.cons ru2 .nil), ⟨o, ho, hcl, nn, hdt⟩⟩
    have sub : ∀ c, c ∈ [z, TO, i1, i2] → c ∈ [z, TI, TO, i1, i2] := fun c hc => by
      have : c = z ∨ c = TO ∨ c = i1 ∨ c = i2 := by simpa using hc
      rcases this with rfl | rfl | rfl | rfl <;> simp
    have I1 := I.turnedNew (t' := tk) (ch := [z, TI, TO, i1, i2]) (fun c ob hb q => hk c ob (fun q' => hb (sub c q')) q) hf hT new
    refine ⟨.ref T, _, I1, rfl, ⟨T, x, y, rfl, I.hok.fresh hT, rfl, fun l hl => by rw [I.list_inj hl hqx]; exact hx, fun l hl => by rw [I.tuple_inj hl hqy]; exact hy⟩, ⟨gz, gTI, gTO, g3, g4⟩, fun c hcm => ?_⟩
    have hlt : c < s.heap.objs.size := by
      rcases zm_mem hcm with rfl | rfl | rfl | rfl | rfl
      · exact Heap.lt_size hz
      · exact Heap.lt_size hTI
      · obtain ⟨_, _, q⟩ := hTO; exact Heap.lt_size q
      · obtain ⟨_, q, _⟩ := h1; exact Heap.lt_size q
      · obtain ⟨_, q, _⟩ := h2; exact Heap.lt_size q
    rw [upd_ne (fun e => Nat.lt_irrefl _ (Nat.lt_of_lt_of_le hlt (by rw [e]; exact hT)))]
    exact (hf c hcm).1
  done := by
    intro X hP hw hK hc i pins s σ H E I hf ⟨hz, hTI, hTO, h1, h2⟩ ⟨xs, ys, hqx, hqy, hend⟩
    subst hP hw hK
    obtain ⟨its, rv, p, _⟩ := I.list hqx
    obtain ⟨its2, rv2, p2, _⟩ := I.tuple hqy
    have l1 := rv.length
    have l2 := rv2.length
    have na := zm_na p.isList h1
    have nb := zm_nb (show s.heap.IsTuple b its2.toArray from p2) h2
    have sub : ∀ c, c ∈ [z, TO, i1, i2] → c ∈ [z, TI, TO, i1, i2] := fun c hc => by
      have : c = z ∨ c = TO ∨ c = i1 ∨ c = i2 := by simpa using hc
      rcases this with rfl | rfl | rfl | rfl <;> simp
    have out : ∀ {fp1 fp2 : List Addr} {n1 n2 : Nat} {P1 P2 : Nat → Value → Prop} {St1 St2 : Nat → Heap → Prop} (S : ZipSep2 z TI TO i1 i2 fp1 fp2) (D1 : Draws X.prog X.w X.A.in1 i1 fp1 n1 P1 St1) (D2 : Draws X.prog X.w X.A.in1 i2 fp2 n2 P2 St2), min n1 n2 = i → St1 i s.heap → St2 i s.heap →
        wpAny (model X.prog X.w) X.A (pyNext (.ref z)) (fun r s1 => r = none ∧ Inv X pins σ H s1) E s := fun S D1 D2 e s1 s2 =>
      (GoesN.zip2 (elts := elts) (x1 := kk) (pos := tpos) S D1 D2).stops s (fun s1 => Inv X pins σ H s1) E (by rw [e]; exact ⟨hz, hTI, hTO, s1, s2⟩) fun h' tk hk _ => I.turnedL (t' := tk) (ch := [z, TI, TO, i1, i2]) (fun c ob hb q => hk c ob (fun q' => hb (sub c q')) q) hf
    have hh : X.A.in1.handled = none := I.ok.hd hc
    by_cases c1 : xs.length ≤ i
    · have n1 : its.toArray[i]? = none := by simp; omega
      by_cases c2 : ys.length ≤ i
      · have n2 : its2.toArray[i]? = none := by simp; omega
        exact out S (endDrawL hh n1) (endDrawT hh n2) (by simp) ⟨rfl, h1, p.isList⟩ ⟨rfl, h2, p2⟩
      · exact out S (endDrawL hh n1) (Draws.tuple hh i2 b nb its2.toArray) (by simp; omega) ⟨rfl, h1, p.isList⟩ ⟨h2, p2⟩
    · have c2 : ys.length ≤ i := hend.resolve_left c1
      have n2 : its2.toArray[i]? = none := by simp; omega
      exact out S (Draws.list hh i1 a na its.toArray) (endDrawT hh n2) (by simp; omega) ⟨h1, p.isList⟩ ⟨rfl, h2, p2⟩
  self := fun A i s Q E st h => wpAny_pyIter_zip st.1 h
/-- zip(list, tuple) -/
def iZipM (K : PySem.W.Frag) (ta : TA) : TI := fun σ H R => ta σ H fun vs H1 => ∃ a b xs ys, vs = [.ref a, .ref b] ∧ SqL K H1 a xs ∧ SqT K H1 b ys ∧ R (ItzM K a b) H1
theorem pi_zipM {X : Cx} {e e2 : Expr} {ta : TA} {p pos tpos : Pos} {elts : List Expr} {kk : Nat} (hg : Gl X "zip") (hm : X.mg "zip" = none) (ha : PA X [e, e2] ta)
    (hs : starEach [e, e2] X.env = (false, eval e X.env) :: starEach [e2] X.env := by rfl) (hpl : (backTo pos (starEach [e2] X.env)).any (·.1) = false := by rfl) :
    PI X (.Tuple elts kk tpos) (.Call (.Name "zip" p) [e, e2] [] pos) (iZipM X.K ta) := by
  refine ⟨fun pins s σ H R I h => ?_⟩
  refine Call_ (ld_blt I hg hm PyProof.Rows.boot_zip (PyProof.Rows.callWith_type1 (thn (ha.run pos pins s σ H _ I h) fun us s1 ⟨vs, H1, I1, r1, a, b, xs, ys, ex, hqx, hqy, q⟩ => ?_) hs hpl))
  subst ex
  obtain ⟨ua, ub, rfl, ra, rb⟩ : ∃ ua ub, us = [ua, ub] ∧ RelV (.ref a) ua ∧ RelV (.ref b) ub := by
    cases r1 with
    | cons r rr =>
      cases rr with
      | cons r' rr => cases rr; exact ⟨_, _, rfl, r, r'⟩
  cases ra
  cases rb
  obtain ⟨its, rv, p1, _⟩ := I1.list hqx
  obtain ⟨its2, rv2, p2, _⟩ := I1.tuple hqy
  have lb : b < s1.heap.objs.size := by
    obtain ⟨o, ho, _⟩ := (show s1.heap.IsTuple b its2.toArray from p2)
    exact Heap.lt_size ho
  generalize hN : s1.heap.objs.size = N at lb
  have fr : ∀ c, c ∈ [N + 4, N + 2, N + 3, N, N + 1] → FpOk X pins H1 c := fun c hcm => by
    have hle : s1.heap.objs.size ≤ c := by
      rw [hN]
      rcases zm_mem hcm with z | z | z | z | z <;> rw [z]
      · exact Nat.le_add_right _ _
      · exact Nat.le_add_right _ _
      · exact Nat.le_add_right _ _
      · exact Nat.le_refl _
      · exact Nat.le_add_right _ _
    exact I1.fpOk hle (I1.hok.fresh hle)
  refine zip_begins2 (begins_list a its.toArray) (begins_tuple b its2.toArray) p1.isList p2 fun h' hz hTI hTO h1 h2 hsz hk => wpAny_pyIter_zip hz ?_
  have I2 : Inv X pins σ H1 { s1 with heap := h' } := I1.kept (t' := s1.toks) hk
  rw [hN] at hz hTI hTO h1 h2 ⊢
  have la : a < N := by rw [← hN]; exact p1.lt
  exact ⟨N + 4, [N + 4, N + 2, N + 3, N, N + 1], _, _, H1, rfl, I2, turn_zipM (zip_sep2 (fp1 := [a]) (fp2 := [b]) (fun c hc => by rw [List.mem_singleton.mp hc]; exact la) (fun c hc => by rw [List.mem_singleton.mp hc]; exact lb)), ⟨hz, hTI, ⟨_, _, hTO⟩, ⟨_, h1, rfl, rfl⟩, ⟨_, h2, rfl, rfl⟩⟩, fr, q⟩
def hZipM : PV → PV → Option (List PV)
  | .lst xs, .tup ys => some (zipP xs ys)
  | _, _ => none
def iZpM (g g2 : EF) : AF := fun s L => bnd (g s L) fun v L1 => bnd (g2 s L1) fun w L2 => ret (hZipM v w) L2
end
section
variable {X : Cx} {c : FC} {e e2 : Expr} {g g2 : EF} {p pos tpos : Pos}
theorem iv_zipM {elts : List Expr} {kk : Nat} (hg : Gl X "zip") (hm : X.mg "zip" = none) (h : EV X c e g) (h2 : EV X c e2 g2) (hs : starEach [e, e2] X.env = (false, eval e X.env) :: starEach [e2] X.env := by rfl) (hs2' : starEach (e2 :: []) X.env = (false, eval e2 X.env) :: starEach [] X.env := by rfl) (hpl : (backTo pos (starEach [e2] X.env)).any (·.1) = false := by rfl) :
    IV X c true (.Tuple elts kk tpos) (.Call (.Name "zip" p) [e, e2] [] pos) (iZpM g g2) := by
  refine pi_imp (pi_zipM hg hm (pa_cons h (pa_cons h2 pa_nil hs2') hs) hs hpl) fun σ H R q => ?_
  refine tOf.first (R := RE _) (R' := RI _ _) (k := fun s v L1 => bnd (g2 s L1) fun w L2 => ret (hZipM v w) L2) q fun ρ L s v L1 ρ1 H1 u r e1 q1 o => ?_
  refine ⟨ρ1, L1, s, r, Ou.bind (R := RE _) (R' := RI _ _) o fun w L2 ρ2 H2 u2 _ e2 t2 q2 o2 => ?_⟩
  obtain ⟨zs, hz, k⟩ := Ou.ret o2
  have q1 := Rep.mono e2.toStb q1
  cases v with
  | lst xs =>
    cases w with
    | tup ys =>
      cases hz
      obtain ⟨a, oa, vs, rfl, na, ha, hxs⟩ := q1
      obtain ⟨b, ws, rfl, hb, hys⟩ := q2
      refine ⟨a, b, vs, ws, rfl, frzL Stb.refl na ha _, KTup.sq (G := gx X c.kt) hb, k ρ2 H2 _ Ext.refl t2 fun i ρ3 H3 st => ⟨fun hi => ?_, fun hi => ⟨vs, ws, frzL st na ha _, tupL (G := gx X c.kt) st hb, ?_⟩⟩⟩
      · obtain ⟨x, y, hx, hy, he⟩ := zipP_get hi
        obtain ⟨vx, hvx, rx⟩ := hxs.get hx
        obtain ⟨vy, hvy, ry⟩ := hys.get hy
        refine ⟨⟨vs, ws, vx, vy, frzL st na ha _, tupL (G := gx X c.kt) st hb, hvx, hvy⟩, fun z H4 ⟨T, x', y', ez, hT, eH, k1, k2⟩ => ?_⟩
        subst ez eH
        have e3 := k1 vs (frzL st na ha _)
        have e4 := k2 ws (tupL (G := gx X c.kt) st hb)
        rw [hvx] at e3
        rw [hvy] at e4
        cases e3
        cases e4
        rw [he]
        exact ⟨fun a o h => by rw [upd_ne (ne_of_none h hT)]; exact h, .inr ⟨rfl, [x, y], T, [vx, vy], rfl, rfl, upd_same, (Reps.cons (rx.mono st) (.cons (ry.mono st) .nil)).mono (Ext.new hT).toStb⟩⟩
      · have h1 := hxs.length
        have h2 := hys.length
        simp [zipP] at hi
        omega
    | _ => cases hz
  | _ => cases w <;> cases hz
end
section
variable {g g2 : EF} {s : Slots} {L : Store}
@[simp] theorem iZpM_at : iZpM g g2 s L = bnd (g s L) fun v L1 => bnd (g2 s L1) fun w L2 => ret (hZipM v w) L2 := rfl
end
end Fx

set_option Elab.async false
set_option linter.all false
set_option maxRecDepth 100000
set_option maxHeartbeats 1000000
/-! Fx part 44: sorted(d.items()), ints under ints. -/
namespace Fx
open PySem PySem.Spec PyProof.Rows L2
/-- the made pairs, by an order -/
def srtII (ps : List (Int × Int)) : List (Int × Int) := ps.mergeSort (fun p q => decide (p.1 < q.1 ∨ (p.1 = q.1 ∧ p.2 ≤ q.2)))
def tSortedItems (td : TE) : TE := fun σ H Q => td σ H fun x H1 => ∃ (d : Addr) (kvs : List (Int × Int)), x = .ref d ∧ H1 d = some (.dK (kvs.map fun q => ((Sum.inl q.1 : Key), V.int q.2))) ∧ kvs.length ≤ 1000 ∧
  ∀ (H2 : Hp) (p : Addr) (ps : List (Addr × Int × Int)), (∀ b o, H1 b = some o → H2 b = some o) → H1 p = none → ps.map (·.2) = srtII kvs → H2 p = some (.lst (ps.map fun z => V.ref z.1)) → (∀ z ∈ ps, H2 z.1 = some (.tup [.int z.2.1, .int z.2.2])) → Q (.ref p) H2
theorem each_ix {α β : Type} {R : α → β → Prop} : ∀ {xs : List α} {ys : List β}, xs.length = ys.length → (∀ (j : Nat) a b, xs[j]? = some a → ys[j]? = some b → R a b) → PySem.W.EachIs R xs ys
  | [], [], _, _ => .nil
  | [], _ :: _, h, _ => by cases h
  | _ :: _, [], h, _ => by cases h
  | x :: xs, y :: ys, h, k => .cons (k 0 x y rfl rfl) (each_ix (by simpa using h) fun j a b ha hb => k (j + 1) a b ha hb)
theorem each_zip {α β : Type} {R : α → β → Prop} : ∀ {xs : List α} {ys : List β}, PySem.W.EachIs R xs ys → ∀ z ∈ xs.zip ys, R z.1 z.2
  | _, _, .nil, z, h => by simp at h
  | _, _, .cons r t, z, h => by
    rw [List.zip_cons_cons] at h
    rcases List.mem_cons.mp h with e | e
    · rw [e]; exact r
    · exact each_zip t z e
section
variable {X : Cx} {o : Expr} {p pos apos mpos : Pos} {td : TE}
theorem pe_sortedItems (hc : X.calm = true) (hu : X.A.units + 64 < cLine) (hg : Gl X "sorted") (hm : X.mg "sorted" = none) (hd : PE X o td) (hbase : attributeBase o "items" X.env (eval o X.env) = eval o X.env := by rfl) (hline : (apos.endLine == mpos.line) = true := by rfl)
    (hse : starEach [Expr.Call (.Attribute o "items" apos) [] [] mpos] X.env = [(false, eval (Expr.Call (.Attribute o "items" apos) [] [] mpos) X.env)] := by rfl) :
    PE X (.Call (.Name "sorted" p) [.Call (.Attribute o "items" apos) [] [] mpos] [] pos) (tSortedItems td) := by
  refine ⟨fun pins s σ H Q I h => ?_⟩
  refine wpAny_Call_Name_kw (ld_blt I hg hm (u := .builtin "sorted") (by decide +kernel) ?_)
  rw [hse]
  refine PySem.callWith_builtin1 (wpAny_Call_method0_late hbase hline (thn (hd.run pins s σ H _ I h) fun v s1 ⟨x, H1, I1, r1, a, kvs, ex, ha, hlen, q⟩ => ?_))
  subst ex
  obtain rfl : v = Value.ref a := r1
  obtain ⟨_, hsys, vs, rel, dof⟩ := dk_of I1.hok ha
  obtain ⟨ob, es, ep, ho, hx, hdat, hko, hpr, hnd⟩ := id dof
  refine ⟨"dict", "dict.items", F.plainAttrs_dict, F.slot_dict_items, F.type_dict_items, ⟨ob, ho, hx.1⟩, fun b e => ?_, Calls.callWith_builtin rfl (PySem.evalArgs_none ?_)⟩
  · cases e
    exact ⟨ob, ho, hx.2.1⟩
  refine call_meetsIn F.slot_dict_items ⟨ob, ho, hx.1⟩ F.entry_dict_items (F.args_dict_items_1 _) (meets_dict_items (mixKind X.prog X.w) a hsys) ⟨⟨vs, dof⟩, ?_⟩
  have l1 : kvs.length = vs.length := by
    have e := Paired.length rel
    rw [List.length_map] at e
    exact e
  have l2 : es.size = vs.length := by rw [← hpr.length, Array.length_toList]
  have hh : X.A.handled = none := I1.ok.hd hc
  have I2 : Inv X pins σ H1 { s1 with heap := s1.heap.push { cls := .type "dict_items", data := .fields #[.ref a] } } := I1.kept (t' := s1.toks) fun b u e => Heap.get?_push_of_some _ e
  refine DT.sortedI (s := { s1 with heap := s1.heap.push { cls := .type "dict_items", data := .fields #[.ref a] } }) (es := es) (ep := ep) hh ⟨_, Heap.get?_push_size _ rfl, rfl, rfl⟩ ⟨ob, Heap.get?_push_of_some _ ho, hx, hdat⟩ (Nat.le_trans (by omega : _ ≤ 1000) (by decide)) fun h' tk as hk hlt hl hG => ?_
  have nd : as.Nodup := List.Pairwise.imp (fun h => Nat.ne_of_lt h) hG.rise
  -- what was made
  have made : ∀ (j : Nat) b k, as[j]? = some b → kvs[j]? = some k → ∃ t1 t2, h'.get? b = some { cls := .type "tuple", data := .seq #[Value.int k.1 t1, Value.int k.2 t2] } := fun j b k hb hkj => by
    obtain ⟨en, he, hgb⟩ := hG.pairs j b hb
    have hjv : j < vs.length := by
      have := (List.getElem?_eq_some_iff.mp hkj).1
      omega
    have he' : es.toList[j]? = some en := by rw [Array.getElem?_toList]; exact he
    have hvj : vs[j]? = some (vs[j].1, vs[j].2) := by simp [hjv]
    obtain ⟨e1, e2⟩ := hpr.get? he' hvj
    obtain ⟨x, g1, g2⟩ := KV.at' rel hvj
    rw [List.getElem?_map, hkj] at g1
    have g1 := Option.some.inj (show some _ = some _ from g1)
    have gk : (Sum.inl k.1 : Key) = vs[j].1 := congrArg (·.1) g1
    have gv : V.int k.2 = x := congrArg (·.2) g1
    subst gv
    obtain ⟨t2, ev⟩ := g2
    have rk := relV_key (show keyIs vs[j].1 en.key = true from e1)
    rw [← gk] at rk
    obtain ⟨t1, ek⟩ := rk
    refine ⟨t1, t2, ?_⟩
    rw [hgb, ek, e2, ev]
  have lak : as.length = kvs.length := by omega
  have hob : (h'.push { cls := .type "list", data := .seq (as.map Value.ref).toArray }).get? h'.objs.size = some (seqObj "list" (as.map Value.ref).toArray 0) := Heap.get?_push_size _ rfl
  have below : ∀ b ∈ as, b < h'.objs.size := fun b hb => hG.there hb
  let enc : Int × Int → PyData := fun q => .tuple [.int q.1, .int q.2]
  let R : Value → Int × Int → Prop := fun v q => ∃ b t1 t2, v = Value.ref b ∧ b ∈ as ∧ h'.get? b = some { cls := .type "tuple", data := .seq #[Value.int q.1 t1, Value.int q.2 t2] }
  have eR : PySem.W.EachIs R (as.map Value.ref) kvs := each_ix (by rw [List.length_map, lak]) fun j v k hv hkj => by
    rw [List.getElem?_map] at hv
    cases hb : as[j]? with
    | none => rw [hb] at hv; cases hv
    | some b =>
      rw [hb] at hv
      cases hv
      obtain ⟨t1, t2, e⟩ := made j b k hb hkj
      exact ⟨b, t1, t2, rfl, List.mem_of_getElem? hb, e⟩
  have eD : PySem.W.EachIs (fun v q => ∃ bs, Reads (h'.push { cls := .type "list", data := .seq (as.map Value.ref).toArray }) v (enc q) bs ∧ h'.objs.size ∉ bs) (as.map Value.ref) kvs := eR.mono fun v q ⟨b, t1, t2, ev, _, e⟩ => by
    subst ev
    refine ⟨[], ?_, by simp⟩
    exact Reads.tuple (Heap.get?_push_of_some _ e) rfl rfl (ReadsAll.cons (Reads.int _ _) (ReadsAll.cons (Reads.int _ _) ReadsAll.nil))
  have hal : PySem.W.AllAlike (kvs.map enc) := PySem.W.AllAlike.of fun b b' => by simp [enc, PySem.W.alike, PySem.W.alikeAll]
  have hsb : PySem.W.Sortable (kvs.map enc) := PySem.W.Sortable.tuples fun b => ⟨_, _, rfl⟩
  refine PySem.W.list_sort_data (s := { s1 with heap := h'.push { cls := .type "list", data := .seq (as.map Value.ref).toArray }, toks := tk }) hob eR eD hal hsb (Nat.le_trans hlen (by decide)) (fun b _ => by
    have : (enc b).depth = 1 := by simp [enc, PyData.depth, PyData.depthAll]
    rw [this]
    show X.A.units + 1 + 1 + 1 < cLine
    omega) fun out hout eO => ?_
  have hle : PySem.W.dataLe false enc = fun p q : Int × Int => decide (p.1 < q.1 ∨ (p.1 = q.1 ∧ p.2 ≤ q.2)) := PySem.W.dataLe_ii (fun p : Int × Int => p.1) (fun p => p.2)
  rw [hle] at eO
  have eO : PySem.W.EachIs R out (srtII kvs) := eO
  obtain ⟨e1, hat⟩ := PyProof.Rows.sortedHeap_at (vs := as.map Value.ref) (out := out.toArray) hob
  have ne0 : ∀ b u, h'.get? b = some u → b ≠ h'.objs.size := fun b u e => Nat.ne_of_lt (Heap.lt_size e)
  have kF : ∀ b u, h'.get? b = some u → (sortedHeap (h'.push { cls := .type "list", data := .seq (as.map Value.ref).toArray }) h'.objs.size (as.map Value.ref) out.toArray).get? b = some u := fun b u e =>
    (PyProof.Rows.sortedHeap_old (ne0 b u e) (Heap.lt_size (Heap.get?_push_of_some _ e))).trans (Heap.get?_push_of_some _ e)
  generalize hF : sortedHeap (h'.push { cls := .type "list", data := .seq (as.map Value.ref).toArray }) h'.objs.size (as.map Value.ref) out.toArray = hf at hat kF
  have I3 : Inv X pins σ H1 { s1 with heap := hf, toks := tk } := I1.kept (t' := tk) fun b u e => kF b u (hk b u (Heap.get?_push_of_some _ e))
  have hsz : s1.heap.objs.size ≤ h'.objs.size := by
    have : s1.heap.objs.size < (s1.heap.push { cls := .type "dict_items", data := .fields #[.ref a] }).objs.size := by rw [Heap.size_push]; exact Nat.lt_succ_self _
    have hlt : (s1.heap.push { cls := .type "dict_items", data := .fields #[.ref a] }).objs.size < h'.objs.size := hlt
    omega
  have hn0 : H1 h'.objs.size = none := I1.hok.fresh hsz
  -- the sorted pairs, with their places
  let adr : Value → Addr := fun v => match v with
    | .ref b => b
    | _ => 0
  have hzip : ∀ z ∈ out.zip (srtII kvs), R z.1 z.2 := each_zip eO
  have lout : out.length = (srtII kvs).length := eO.length
  generalize hps : ((out.zip (srtII kvs)).map fun z => (adr z.1, z.2)) = ps
  have hps2 : ps.map (·.2) = srtII kvs := by
    rw [← hps, List.map_map]
    exact List.map_snd_zip (by omega)
  have hout1 : out = ps.map fun z => Value.ref z.1 := by
    rw [← hps, List.map_map]
    have e0 : (out.zip (srtII kvs)).map (·.1) = out := List.map_fst_zip (by omega)
    conv => lhs; rw [← e0]
    refine List.map_congr_left fun z hz => ?_
    obtain ⟨b, t1, t2, ev, _⟩ := hzip z hz
    show z.1 = Value.ref (adr z.1)
    rw [ev]
  have hmem : ∀ z ∈ ps, z.1 ∈ as ∧ ∃ t1 t2, h'.get? z.1 = some { cls := .type "tuple", data := .seq #[Value.int z.2.1 t1, Value.int z.2.2 t2] } := fun z hz => by
    rw [← hps] at hz
    obtain ⟨y, hy, rfl⟩ := List.mem_map.mp hz
    obtain ⟨b, t1, t2, ev, hb, e⟩ := hzip y hy
    have : adr y.1 = b := by rw [ev]
    show adr y.1 ∈ as ∧ _
    rw [this]
    exact ⟨hb, t1, t2, e⟩
  have rv : Vals (ps.map fun z => V.ref z.1) out := by
    rw [hout1]
    exact vals_maps (fun z : Addr × Int × Int => V.ref z.1) (fun z => Value.ref z.1) ps fun _ _ => rfl
  have lps : ps.length = kvs.length := by
    have := congrArg List.length hps2
    rw [List.length_map] at this
    rw [this]
    exact List.length_mergeSort _
  have I4 : Inv X pins σ (upd H1 h'.objs.size (.lst (ps.map fun z => V.ref z.1))) { s1 with heap := hf, toks := tk } :=
    I3.take (h' := hf) (t' := tk) (fun b u _ e => e) (I1.fpOk hsz hn0) ⟨by rw [List.length_map, lps]; exact Nat.le_trans hlen (by decide), out, e1, rv, hat⟩
  obtain ⟨H2, I5, g, qt⟩ := L2.DX.takeT (P := fun b us => ∃ t1 t2 i j, h'.get? b = some { cls := .type "tuple", data := .seq #[Value.int i t1, Value.int j t2] } ∧ us = [.int i, .int j]) I1 as _ I4 nd fun b hb => by
    obtain ⟨j, hj⟩ := List.mem_iff_getElem?.mp hb
    have hjl := (List.getElem?_eq_some_iff.mp hj).1
    obtain ⟨t1, t2, e⟩ := made j b (kvs[j]'(by omega)) hj (by simp)
    have hbs : s1.heap.objs.size ≤ b := by
      have hab := hG.above b hb
      have : s1.heap.objs.size < (s1.heap.push { cls := .type "dict_items", data := .fields #[.ref a] }).objs.size := by rw [Heap.size_push]; exact Nat.lt_succ_self _
      have hab : (s1.heap.push { cls := .type "dict_items", data := .fields #[.ref a] }).objs.size < b := hab
      omega
    refine ⟨hbs, by rw [upd_ne (ne0 b _ e)]; exact I1.hok.fresh hbs, _, ⟨t1, t2, _, _, e, rfl⟩, fun H2 => ⟨by show 2 ≤ sizeLine; decide, _, .cons ⟨t1, rfl⟩ (.cons ⟨t2, rfl⟩ .nil), ⟨_, kF _ _ e, rfl, _, rfl⟩⟩⟩
  refine ⟨.ref h'.objs.size, H2, I5, rfl, q H2 h'.objs.size ps (fun b u e => g b u (by rw [upd_ne (ne_of_none e hn0)]; exact e)) hn0 hps2 (g _ _ upd_same) fun z hz => ?_⟩
  obtain ⟨hz1, t1, t2, e⟩ := hmem z hz
  obtain ⟨us, ⟨t3, t4, i, j, e3, eu⟩, h2⟩ := qt z.1 hz1
  rw [e] at e3
  have := congrArg Obj.data (Option.some.inj e3)
  injection this with h5 _
  have h6 := congrArg Array.toList h5
  simp at h6
  rw [h2, eu, h6.1.1, h6.2.1]
end
end Fx

set_option Elab.async false
set_option linter.all false
set_option maxRecDepth 100000
set_option maxHeartbeats 1000000
/-! Fx part 45: sorted(d.items()), read. -/
namespace Fx
open PySem L2
def itemII : List (Key × PV) → Option (List (Int × Int))
  | [] => some []
  | (.inl k, .int v) :: r => (itemII r).map ((k, v) :: ·)
  | _ => none
def nSrtItems (fc : CF) : CF := fun s L => bnd (fc s L) fun w L1 => ret (match w with
  | .dk kvs => (itemII kvs).bind fun ps => if ps.length ≤ 1000 then some (Cell.lst ((srtII ps).map pvPair)) else none
  | _ => none) L1
theorem itemII_rep {G : Gx} {ρ : List Addr} {H : Hp} : ∀ {kvs : List (Key × PV)} {l : List (Key × V)} {ps : List (Int × Int)}, itemII kvs = some ps → DRep G ρ H kvs l → l = ps.map fun q => ((Sum.inl q.1 : Key), V.int q.2)
  | [], l, ps, h, r => by
    cases h
    obtain ⟨r1, _⟩ := r
    simpa using r1
  | (.inl k, .int v) :: kvs, l, ps, h, r => by
    unfold itemII at h
    cases hr : itemII kvs with
    | none => rw [hr] at h; cases h
    | some qs =>
      rw [hr] at h
      cases h
      obtain ⟨v', l', rfl, r1, r2⟩ := r.cons_inv
      have r1 : v' = .int v := r1
      subst r1
      rw [itemII_rep hr r2]
      rfl
  | (.inl _, .non) :: _, _, _, h, _ => by cases h
  | (.inl _, .bl _) :: _, _, _, h, _ => by cases h
  | (.inl _, .str _) :: _, _, _, h, _ => by cases h
  | (.inl _, .tup _) :: _, _, _, h, _ => by cases h
  | (.inl _, .lst _) :: _, _, _, h, _ => by cases h
  | (.inl _, .dk _ _) :: _, _, _, h, _ => by cases h
  | (.inl _, .dt _ _) :: _, _, _, h, _ => by cases h
  | (.inl _, .loc _) :: _, _, _, h, _ => by cases h
  | (.inl _, .scr _) :: _, _, _, h, _ => by cases h
  | (.inr _, _) :: _, _, _, h, _ => by cases h
theorem prs_rep {G : Gx} (hk : G.kt = false) {ρ : List Addr} {H : Hp} : ∀ (ps : List (Addr × Int × Int)), (∀ z ∈ ps, H z.1 = some (.tup [.int z.2.1, .int z.2.2])) → Reps G ρ H (ps.map fun z => pvPair z.2) (ps.map fun z => V.ref z.1)
  | [], _ => .nil
  | z :: ps, h => .cons ⟨z.1, [.int z.2.1, .int z.2.2], rfl, .inl ⟨by rw [hk]; rfl, h z (by simp)⟩, .cons rfl (.cons rfl .nil)⟩ (prs_rep hk ps fun y hy => h y (by simp [hy]))
section
variable {X : Cx} {c : FC} {e : Expr} {fc : CF} {p pos apos mpos : Pos} {kt : Bool}
theorem nv_srtItems (hkt : c.kt = kt) (h0 : kt = false) (hc : X.calm = true) (hu : X.A.units + 64 < cLine) (hg : Gl X "sorted") (hm : X.mg "sorted" = none) (he : NV X c e fc) (hbase : attributeBase e "items" X.env (eval e X.env) = eval e X.env := by rfl) (hline : (apos.endLine == mpos.line) = true := by rfl)
    (hse : starEach [Expr.Call (.Attribute e "items" apos) [] [] mpos] X.env = [(false, eval (Expr.Call (.Attribute e "items" apos) [] [] mpos) X.env)] := by rfl) :
    NV X c (.Call (.Name "sorted" p) [.Call (.Attribute e "items" apos) [] [] mpos] [] pos) (nSrtItems fc) := by
  refine pe_imp (pe_sortedItems hc hu hg hm he hbase hline hse) fun σ H Q q => ?_
  refine tOf.first (R := RN _) (R' := RN _) (k := fun s w L1 => ret (match w with
  | .dk kvs => (itemII kvs).bind fun ps => if ps.length ≤ 1000 then some (Cell.lst ((srtII ps).map pvPair)) else none
  | _ => none) L1) q fun ρ L s w L1 ρ1 H1 v r e1 q1 o => ?_
  obtain ⟨z, hz, k⟩ := Ou.ret o
  obtain ⟨a, rfl, na, ha, cr⟩ := q1
  cases w with
  | dk kvs =>
    dsimp only at hz
    cases hi : itemII kvs with
    | none => rw [hi] at hz; cases hz
    | some ps =>
      rw [hi] at hz
      dsimp only [Option.bind] at hz
      split at hz
      · rename_i hl
        cases hz
        obtain ⟨l, h1, h2⟩ := cr
        have := itemII_rep hi h2
        subst this
        refine ⟨a, ps, rfl, h1, hl, fun H2 b qs k1 k2 k3 k4 k5 => k ρ1 H2 _ (Ext.same k1) (r.st.same k1) ?_⟩
        refine ⟨b, rfl, r.st.fresh k2, k2, qs.map fun z => V.ref z.1, k4, ?_⟩
        have e3 : (srtII ps).map pvPair = qs.map fun z => pvPair z.2 := by rw [← k3, List.map_map]; rfl
        rw [e3]
        exact prs_rep (by show c.kt = false; rw [hkt, h0]) qs k5
      · cases hz
  | _ => cases hz
end
section
variable {fc : CF} {s : Slots} {L : Store}
@[simp] theorem nSrtItems_at : nSrtItems fc s L = bnd (fc s L) fun w L1 => ret (match w with
  | .dk kvs => (itemII kvs).bind fun ps => if ps.length ≤ 1000 then some (Cell.lst ((srtII ps).map pvPair)) else none
  | _ => none) L1 := rfl
end
end Fx

set_option Elab.async false
set_option linter.all false
set_option maxRecDepth 100000
set_option maxHeartbeats 1000000
/-! Fx part 46: dict(zip(a list, a tuple)): the pairs that zip gives while the one before is held. -/
namespace Fx
open PySem
section
variable {prog : Program} {w : World} {A : Around} {E : Value → Shared → Prop} {s : Shared} {z TI TO T i1 i2 : Addr} {fp1 fp2 : List Addr} {n1 n2 i : Nat} {P1 P2 : Nat → Value → Prop} {St1 St2 : Nat → Heap → Prop} {f : Bool} {oT : Obj}
/-- zip's next while the tuple T is out, of two sources of any kind -/
theorem held_item {Q : Value → Shared → Prop} (S : ZipSep2 z TI TO i1 i2 fp1 fp2) (D1 : Draws prog w A i1 fp1 n1 P1 St1) (D2 : Draws prog w A i2 fp2 n2 P2 St2)
    (hz : IsZipHeld s.heap z TI TO T f) (hT : s.heap.get? T = some oT) (hTI : IsTupOf2 s.heap TI (.ref i1) (.ref i2)) (st1 : St1 i s.heap) (st2 : St2 i s.heap) (lt1 : i < n1) (lt2 : i < n2)
    (hQ : ∀ x y h' tk, P1 i x → P2 i y → IsZipHeld h' z TI TO T true → St1 (i + 1) h' → St2 (i + 1) h' → IsTupOf2 h' s.heap.objs.size x y → (∀ c o, c ≠ z → c ≠ i1 → c ≠ i2 → s.heap.get? c = some o → h'.get? c = some o) → Q (.ref s.heap.objs.size) { s with heap := h', toks := tk }) :
    wpAny (model prog w) A (Builtin.«zip.__next__» ⟨[.ref z], []⟩) (fun fin s' => ∃ v, fin = .done (.ret v) ∧ Q v s') E s := by
  show wpAny _ _ (field (.ref z) 2 >>= _) _ _ _
  refine wpAny_bind (wpAny_field hz rfl (x := .bool false) rfl ?_)
  show wpAny _ _ (field (.ref z) 3 >>= _) _ _ _
  refine wpAny_bind (wpAny_field hz rfl (x := .ref TI) rfl ?_)
  refine wpAny_bind (wpAny_seqItems hTI rfl ?_)
  show wpAny _ _ (Builtin.SmallTypes.ownedTupleIsFree (.ref z) >>= _) _ _ _
  refine wpAny_bind (wpAny_tupleHeld_zip hz hT fun a hza ka => ?_)
  simp only [Bool.false_eq_true, if_false]
  refine wpAny_bind ?_
  rw [← Array.forIn_toList]
  simp only [List.forIn_cons, List.forIn_nil]
  refine wpAny_bind (wpAny_bind (wpAny_holding ?_))
  show wpAny _ _ (Builtin.SmallTypes.nextOf (.ref i1) >>= _) _ _ _
  refine wpAny_bind (D1.item i { s with heap := a } _ _ lt1 (D1.over st1 ka S.zf1) fun x b tb hx s1 kb => wpAny_pure ?_)
  replace kb : Heap.SameBut i1 a b := kb
  refine wpAny_pure ?_
  refine wpAny_bind (wpAny_bind (wpAny_holding ?_))
  show wpAny _ _ (Builtin.SmallTypes.nextOf (.ref i2) >>= _) _ _ _
  refine wpAny_bind (D2.item i { s with heap := b, toks := tb } _ _ lt2 (D2.over (D2.over st2 ka S.zf2) kb S.sep1_2) fun y c tc hy s2 kc => wpAny_pure ?_)
  replace kc : Heap.SameBut i2 b c := kc
  refine wpAny_pure (wpAny_pure ?_)
  show wpAny _ _ (newTuple [x, y] >>= _) _ _ _
  refine wpAny_bind (wpAny_newTuple ?_)
  have size : c.objs.size = s.heap.objs.size := by rw [kc.1, kb.1, ka.1]
  have hzc : IsZipHeld c z TI TO T true := kc.extBut _ _ S.zi2 (kb.extBut _ _ S.zi1 hza)
  have s1c : St1 (i + 1) c := D1.over s1 kc S.sep2_1
  have keep : ∀ d o, d ≠ z → d ≠ i1 → d ≠ i2 → s.heap.get? d = some o → c.get? d = some o := fun d o e0 e1 e2 h => kc.extBut _ _ e2 (kb.extBut _ _ e1 (ka.extBut _ _ e0 h))
  have new : IsTupOf2 (c.push { cls := .type "tuple", data := .seq #[x, y] }) c.objs.size x y := Heap.get?_push_size _ rfl
  refine wpAny_pure ⟨_, rfl, ?_⟩
  show Q (.ref c.objs.size) _
  rw [size] at new ⊢
  exact hQ x y _ tc hx hy (Heap.get?_push_of_some _ hzc) (D1.frame _ _ _ s1c fun d _ o e => Heap.get?_push_of_some _ e) (D2.frame _ _ _ s2 fun d _ o e => Heap.get?_push_of_some _ e) new fun d o e0 e1 e2 h => Heap.get?_push_of_some _ (keep d o e0 e1 e2 h)
theorem held_end {Q : Fin → Shared → Prop} (S : ZipSep2 z TI TO i1 i2 fp1 fp2) (D1 : Draws prog w A i1 fp1 n1 P1 St1) (D2 : Draws prog w A i2 fp2 n2 P2 St2)
    (hz : IsZipHeld s.heap z TI TO T f) (hT : s.heap.get? T = some oT) (hTI : IsTupOf2 s.heap TI (.ref i1) (.ref i2)) (st1 : St1 i s.heap) (st2 : St2 i s.heap) (le1 : i ≤ n1) (le2 : i ≤ n2) (hend : i = n1 ∨ i = n2)
    (hE : ∀ h' tk e, (∀ c o, c ≠ z → c ≠ i1 → c ≠ i2 → s.heap.get? c = some o → h'.get? c = some o) → (∃ o, h'.get? e = some o ∧ o.cls = .type "StopIteration") → E (.ref e) { s with heap := h', toks := tk }) :
    wpAny (model prog w) A (Builtin.«zip.__next__» ⟨[.ref z], []⟩) Q E s := by
  show wpAny _ _ (field (.ref z) 2 >>= _) _ _ _
  refine wpAny_bind (wpAny_field hz rfl (x := .bool false) rfl ?_)
  show wpAny _ _ (field (.ref z) 3 >>= _) _ _ _
  refine wpAny_bind (wpAny_field hz rfl (x := .ref TI) rfl ?_)
  refine wpAny_bind (wpAny_seqItems hTI rfl ?_)
  show wpAny _ _ (Builtin.SmallTypes.ownedTupleIsFree (.ref z) >>= _) _ _ _
  refine wpAny_bind (wpAny_tupleHeld_zip hz hT fun a hza ka => ?_)
  simp only [Bool.false_eq_true, if_false]
  refine wpAny_bind ?_
  rw [← Array.forIn_toList]
  simp only [List.forIn_cons, List.forIn_nil]
  refine wpAny_bind (wpAny_bind (wpAny_holding ?_))
  by_cases lt1 : i < n1
  · show wpAny _ _ (Builtin.SmallTypes.nextOf (.ref i1) >>= _) _ _ _
    refine wpAny_bind (D1.item i { s with heap := a } _ _ lt1 (D1.over st1 ka S.zf1) fun x b tb hx s1 kb => wpAny_pure ?_)
    replace kb : Heap.SameBut i1 a b := kb
    refine wpAny_pure ?_
    refine wpAny_bind (wpAny_bind (wpAny_holding ?_))
    obtain rfl : i = n2 := by omega
    show wpAny _ _ (Builtin.SmallTypes.nextOf (.ref i2) >>= _) _ _ _
    exact wpAny_bind (D2.done { s with heap := b, toks := tb } _ _ (D2.over (D2.over st2 ka S.zf2) kb S.sep1_2) fun c e kc he => hE c tb e (fun d o e0 e1 e2 h => kc _ _ e2 (kb.extBut _ _ e1 (ka.extBut _ _ e0 h))) he)
  · obtain rfl : i = n1 := by omega
    show wpAny _ _ (Builtin.SmallTypes.nextOf (.ref i1) >>= _) _ _ _
    exact wpAny_bind (D1.done { s with heap := a } _ _ (D1.over st1 ka S.zf1) fun c e kc he => hE c s.toks e (fun d o e0 e1 e2 h => kc _ _ e1 (ka.extBut _ _ e0 h)) he)
theorem held_next_item {Q : Option Value → Shared → Prop} (S : ZipSep2 z TI TO i1 i2 fp1 fp2) (D1 : Draws prog w A.in1 i1 fp1 n1 P1 St1) (D2 : Draws prog w A.in1 i2 fp2 n2 P2 St2)
    (hz : IsZipHeld s.heap z TI TO T f) (hT : s.heap.get? T = some oT) (hTI : IsTupOf2 s.heap TI (.ref i1) (.ref i2)) (st1 : St1 i s.heap) (st2 : St2 i s.heap) (lt1 : i < n1) (lt2 : i < n2)
    (hQ : ∀ x y h' tk, P1 i x → P2 i y → IsZipHeld h' z TI TO T true → St1 (i + 1) h' → St2 (i + 1) h' → IsTupOf2 h' s.heap.objs.size x y → (∀ c o, c ≠ z → c ≠ i1 → c ≠ i2 → s.heap.get? c = some o → h'.get? c = some o) → Q (some (.ref s.heap.objs.size)) { s with heap := h', toks := tk }) :
    wpAny (model prog w) A (pyNext (.ref z)) Q E s := by
  have ty : s.TypeIs (.ref z) "zip" := ⟨_, hz, rfl⟩
  unfold pyNext
  refine wpAny_bind (wpAny_attempt (wpAny_callSpecial?_slot (name := Str.ofString "__next__") ty F.slot_zip_next (wpAny_call_entry F.slot_zip_next ty F.entry_zip_next ?_ (F.args_zip_next_1 _))))
  exact held_item S D1 D2 hz hT hTI st1 st2 lt1 lt2 fun x y h' tk a1 a2 a3 a4 a5 a6 a7 => wpAny_pure (hQ x y h' tk a1 a2 a3 a4 a5 a6 a7)
theorem held_next_end {Q : Option Value → Shared → Prop} (S : ZipSep2 z TI TO i1 i2 fp1 fp2) (D1 : Draws prog w A.in1 i1 fp1 n1 P1 St1) (D2 : Draws prog w A.in1 i2 fp2 n2 P2 St2)
    (hz : IsZipHeld s.heap z TI TO T f) (hT : s.heap.get? T = some oT) (hTI : IsTupOf2 s.heap TI (.ref i1) (.ref i2)) (st1 : St1 i s.heap) (st2 : St2 i s.heap) (le1 : i ≤ n1) (le2 : i ≤ n2) (hend : i = n1 ∨ i = n2)
    (hQ : ∀ h' tk, (∀ c o, c ≠ z → c ≠ i1 → c ≠ i2 → s.heap.get? c = some o → h'.get? c = some o) → Q none { s with heap := h', toks := tk }) : wpAny (model prog w) A (pyNext (.ref z)) Q E s := by
  have ty : s.TypeIs (.ref z) "zip" := ⟨_, hz, rfl⟩
  unfold pyNext
  refine wpAny_bind (wpAny_attempt (wpAny_callSpecial?_slot (name := Str.ofString "__next__") ty F.slot_zip_next (wpAny_call_entry F.slot_zip_next ty F.entry_zip_next ?_ (F.args_zip_next_1 _))))
  refine held_end S D1 D2 hz hT hTI st1 st2 le1 le2 hend fun h' tk e k he => ?_
  obtain ⟨o, ho, hc⟩ := he
  exact wpAny_bind (wpAny_isInstance (T := "StopIteration") (b := true) ⟨o, ho, hc⟩ isSubtype_stop (wpAny_pure (hQ _ _ k)))
end
end Fx

set_option Elab.async false
set_option linter.all false
set_option maxRecDepth 100000
set_option maxHeartbeats 1000000
/-! Fx part 47: dict(zip(a list of tuples, a tuple)). -/
namespace Fx
open PySem PySem.Spec PyProof.Rows L2
section
variable {prog : Program} {w : World} {z TI TO i1 i2 : Addr} {fp1 fp2 : List Addr} {n1 n2 : Nat} {P1 P2 : Nat → Value → Prop} {St1 St2 : Nat → Heap → Prop}
/-- a zip of two sources as dict's argument -/
theorem argZip (S : ZipSep2 z TI TO i1 i2 fp1 fp2) (D1 : ∀ A : Around, A.handled = none → Draws prog w A i1 fp1 n1 P1 St1) (D2 : ∀ A : Around, A.handled = none → Draws prog w A i2 fp2 n2 P2 St2)
    (th1 : ∀ h, St1 0 h → ∀ b ∈ fp1, ∃ o, h.get? b = some o) (th2 : ∀ h, St2 0 h → ∀ b ∈ fp2, ∃ o, h.get? b = some o) (A0 : Around) (h0 : A0.handled = none) :
    PairArg prog w "zip" z (z :: TI :: TO :: (fp1 ++ fp2)) [z, TO, i1, i2] (min n1 n2) (fun i k v => P1 i k ∧ P2 i v)
      (fun h => IsZip h z TI TO .none ∧ IsTupOf2 h TI (.ref i1) (.ref i2) ∧ (∃ x y, IsTupOf2 h TO x y) ∧ St1 0 h ∧ St2 0 h) where
  type := fun s ok => ⟨_, ok.1, rfl⟩
  notDict := by decide
  keep := fun h h' ⟨a, b, ⟨x, y, c⟩, d, e⟩ k => ⟨k _ _ a, k _ _ b, ⟨x, y, k _ _ c⟩, (D1 A0 h0).frame _ _ _ d fun b _ o q => k b o q, (D2 A0 h0).frame _ _ _ e fun b _ o q => k b o q⟩
  there := fun h ⟨a, b, ⟨x, y, c⟩, d, e⟩ q hq => by
    rcases List.mem_cons.mp hq with rfl | hq
    · exact ⟨_, a⟩
    rcases List.mem_cons.mp hq with rfl | hq
    · exact ⟨_, b⟩
    rcases List.mem_cons.mp hq with rfl | hq
    · exact ⟨_, c⟩
    exact (List.mem_append.mp hq).elim (th1 h d q) (th2 h e q)
  sub := fun b hb => by
    have hb : b = z ∨ b = TO ∨ b = i1 ∨ b = i2 := by simpa using hb
    rcases hb with rfl | rfl | rfl | rfl
    · simp
    · simp
    · simp [S.mem1]
    · simp [S.mem2]
  noKeys := fun A s Q E hA ok h => getAttrOr_miss_zip ok.1 rfl rfl rfl zip_no_keys (by decide +kernel) hA h
  iter := fun A s d Q E hA ok hd hdf h => by
    obtain ⟨hz, hTI, ⟨x, y, hTO⟩, s1, s2⟩ := ok
    have nz : d ≠ z := fun e => hdf (by rw [e]; simp)
    have nTI : d ≠ TI := fun e => hdf (by rw [e]; simp)
    have nTO : d ≠ TO := fun e => hdf (by rw [e]; simp)
    have nf1 : ∀ b ∈ fp1, b ≠ d := fun b hb e => hdf (by rw [← e]; simp [hb])
    have nf2 : ∀ b ∈ fp2, b ≠ d := fun b hb e => hdf (by rw [← e]; simp [hb])
    have C1 : Draws prog w A.in1 i1 fp1 n1 P1 St1 := D1 A.in1 hA
    have C2 : Draws prog w A.in1 i2 fp2 n2 P2 St2 := D2 A.in1 hA
    refine wpAny_pyIter_zip hz (h z [z, TO, i1, i2] (fun i h => IsTupOf2 h TI (.ref i1) (.ref i2) ∧ St1 i h ∧ St2 i h ∧
      ((IsZip h z TI TO .none ∧ ∃ x y, IsTupOf2 h TO x y) ∨ ∃ T f oT, IsZipHeld h z TI TO T f ∧ h.get? T = some oT ∧ T ≠ z ∧ T ≠ i1 ∧ T ≠ i2 ∧ T ≠ d)) s.heap s.toks ?_ ⟨hTI, s1, s2, .inl ⟨hz, x, y, hTO⟩⟩ (fun _ _ e => e) fun b hb => .inl hb)
    refine ⟨fun hm => ?_, fun i h1 h2 st hk => ?_, fun i t R F hi st hdt hQ => ?_, fun t R F st hQ => ?_⟩
    · have hm : d = z ∨ d = TO ∨ d = i1 ∨ d = i2 := by simpa using hm
      rcases hm with e | e | e | e
      · exact nz e
      · exact nTO e
      · exact nf1 _ S.mem1 e.symm
      · exact nf2 _ S.mem2 e.symm
    · obtain ⟨a, b, c, q⟩ := st
      refine ⟨hk _ _ nTI.symm a, C1.frame _ _ _ b fun b hb o e => hk b o (nf1 b hb) e, C2.frame _ _ _ c fun b hb o e => hk b o (nf2 b hb) e, ?_⟩
      rcases q with ⟨q, x, y, r⟩ | ⟨T, f, oT, q, r, e0, e1, e2, e3⟩
      · exact .inl ⟨hk _ _ nz.symm q, x, y, hk _ _ nTO.symm r⟩
      · exact .inr ⟨T, f, oT, hk _ _ nz.symm q, hk _ _ e3 r, e0, e1, e2, e3⟩
    · obtain ⟨a, b, c, q⟩ := st
      have lt1 : i < n1 := by omega
      have lt2 : i < n2 := by omega
      have fresh : ∀ {c o}, t.heap.get? c = some o → t.heap.objs.size ≠ c := fun e => Nat.ne_of_gt (Heap.lt_size e)
      have f1 : t.heap.objs.size ≠ i1 := let ⟨_, e⟩ := C1.live _ _ b; fresh e
      have f2 : t.heap.objs.size ≠ i2 := let ⟨_, e⟩ := C2.live _ _ c; fresh e
      rcases q with ⟨q, x, y, r⟩ | ⟨T, f, oT, q, r, e0, e1, e2, e3⟩
      · refine wpAny_pyNext_zipD2_item S C1 C2 q a r b c lt1 lt2 fun x1 x2 h' tk y1 y2 g1 g2 g3 g4 g5 _ k => ?_
        exact hQ _ x1 x2 h' tk ⟨y1, y2⟩ (.inl ⟨_, g5, rfl, _, rfl⟩) ⟨k _ _ S.TIz S.TITO S.TIi1 S.TIi2 a, g3, g4, .inr ⟨t.heap.objs.size, false, _, g1, g5, fresh q, f1, f2, Nat.ne_of_gt hdt⟩⟩
          fun b o hb e => k b o (fun p => hb (by simp [p])) (fun p => hb (by simp [p])) (fun p => hb (by simp [p])) (fun p => hb (by simp [p])) e
      · refine held_next_item S C1 C2 q r a b c lt1 lt2 fun x1 x2 h' tk y1 y2 g1 g3 g4 g5 k => ?_
        exact hQ _ x1 x2 h' tk ⟨y1, y2⟩ (.inl ⟨_, g5, rfl, _, rfl⟩) ⟨k _ _ S.TIz S.TIi1 S.TIi2 a, g3, g4, .inr ⟨T, true, oT, g1, k _ _ e0 e1 e2 r, e0, e1, e2, e3⟩⟩
          fun b o hb e => k b o (fun p => hb (by simp [p])) (fun p => hb (by simp [p])) (fun p => hb (by simp [p])) e
    · obtain ⟨a, b, c, q⟩ := st
      rcases q with ⟨q, x, y, r⟩ | ⟨T, f, oT, q, r, e0, e1, e2, e3⟩
      · exact wpAny_pyNext_zipD2_end S C1 C2 q a r b c (by omega) (by omega) (by omega) fun h' tk k => hQ h' tk fun b o hb e => k b o (fun p => hb (by simp [p])) (fun p => hb (by simp [p])) (fun p => hb (by simp [p])) (fun p => hb (by simp [p])) e
      · exact held_next_end S C1 C2 q r a b c (by omega) (by omega) (by omega) fun h' tk k => hQ h' tk fun b o hb e => k b o (fun p => hb (by simp [p])) (fun p => hb (by simp [p])) (fun p => hb (by simp [p])) e
end
end Fx

set_option Elab.async false
set_option linter.all false
set_option maxRecDepth 100000
set_option maxHeartbeats 1000000
/-! Fx part 48: dict(zip(a list of tuples, a tuple)), told and read. -/
namespace Fx
open PySem PySem.Spec PyProof.Rows L2
theorem lt_ne {a N k : Nat} (h : a < N) : a ≠ N + k := by omega
def mergeT (acc more : List (List Key × V)) : List (List Key × V) := more.foldl (fun a p => putK a p.1 p.2) acc
theorem kt_merge {H : Hp} : ∀ {more : List (List Key × V)} {ps : List (List Key × Addr × Value)} {acc : List (List Key × V)} {xs : List (List Key × Addr × Value)}, KT H more ps → KT H acc xs → KT H (mergeT acc more) (storedAllH xs ps)
  | [], _, acc, xs, .nil, k => k
  | p :: more, q :: ps, acc, xs, .cons r t, k => by
    obtain ⟨pk, pv⟩ := p
    obtain ⟨qk, qb, qv⟩ := q
    obtain ⟨e, hb, rv⟩ := r
    have e : pk = qk := e
    subst e
    show KT H (mergeT (putK acc pk pv) more) (storedAllH (storedH xs pk qb qv) ps)
    exact kt_merge t (k.put pk hb rv)
/-- the tuples xs, told by their keys -/
def KeysAt (H : Hp) : List V → List (List Key) → Prop := Paired fun x ks => ∃ q, x = .ref q ∧ H q = some (.tup (ks.map kV))
theorem zip_pairs {H : Hp} : ∀ {xs : List V} {its : List Value} {kss : List (List Key)} {ys : List V} {its2 : List Value}, Vals xs its → KeysAt H xs kss → Vals ys its2 →
    ∃ ps : List (List Key × Addr × Value), ps.length = min its.length its2.length ∧ (∀ (i : Nat) (key v : Value), its[i]? = some key → its2[i]? = some v → ∃ k b, ps[i]? = some (k, b, v) ∧ key = Value.ref b) ∧ KT H (kss.zip ys) ps
  | _, _, _, _, _, .nil, .nil, _ => ⟨[], by simp, by simp, .nil⟩
  | _, _, _, _, _, .cons _ _, .cons _ _, .nil => ⟨[], by simp, by simp, .nil⟩
  | _, _, _, _, _, .cons (b := u) r t, .cons (b := ks) q qs, .cons (b := u2) r2 t2 => by
    obtain ⟨ps, h1, h2, h3⟩ := zip_pairs t qs t2
    obtain ⟨b, e, hb⟩ := q
    subst e
    obtain rfl : u = Value.ref b := r
    refine ⟨(ks, b, u2) :: ps, by simp [h1], fun i key v e1 e2 => ?_, .cons ⟨rfl, hb, r2⟩ h3⟩
    cases i with
    | zero =>
      simp at e1 e2
      subst e1 e2
      exact ⟨ks, b, rfl, rfl⟩
    | succ i => exact h2 i key v (by simpa using e1) (by simpa using e2)
def tDZ (K : PySem.W.Frag) (ta : TA) : TE := fun σ H Q => ta σ H fun vs H1 => ∃ (a b : Addr) (xs ys : List V) (kss : List (List Key)), vs = [.ref a, .ref b] ∧ SqL K H1 a xs ∧ SqT K H1 b ys ∧ KeysAt H1 xs kss ∧
  ∀ p, H1 p = none → Q (.ref p) (upd H1 p (.dT (mergeT [] (kss.zip ys))))
section
variable {X : Cx} {e e2 : Expr} {ta : TA} {p p2 pos pos2 : Pos}
theorem pe_dictZip (hc : X.calm = true) (hu : X.A.units + 3 < cLine) (hgd : Gl X "dict") (hmd : X.mg "dict" = none) (hg : Gl X "zip") (hm : X.mg "zip" = none) (ha : PA X [e, e2] ta)
    (hse : starEach [Expr.Call (.Name "zip" p2) [e, e2] [] pos2] X.env = [(false, eval (Expr.Call (.Name "zip" p2) [e, e2] [] pos2) X.env)] := by rfl)
    (hs : starEach [e, e2] X.env = (false, eval e X.env) :: starEach [e2] X.env := by rfl) (hpl : (backTo pos2 (starEach [e2] X.env)).any (·.1) = false := by rfl) :
    PE X (.Call (.Name "dict" p) [.Call (.Name "zip" p2) [e, e2] [] pos2] [] pos) (tDZ X.K ta) := by
  refine ⟨fun pins s σ H Q I h => ?_⟩
  refine wpAny_Call_Name_kw (ld_blt I hgd hmd boot_dict ?_)
  rw [hse]
  refine PySem.callWith_type1 (Call_ (ld_blt I hg hm boot_zip (PyProof.Rows.callWith_type1 (thn (ha.run pos2 pins s σ H _ I h) fun us s1 ⟨vs, H1, I1, r1, a, b, xs, ys, kss, ex, hqx, hqy, hks, q⟩ => ?_) hs hpl)))
  subst ex
  obtain ⟨ua, ub, rfl, ra, rb⟩ : ∃ ua ub, us = [ua, ub] ∧ RelV (.ref a) ua ∧ RelV (.ref b) ub := by
    cases r1 with
    | cons r rr =>
      cases rr with
      | cons r' rr => cases rr; exact ⟨_, _, rfl, r, r'⟩
  cases ra
  cases rb
  obtain ⟨its, rv, p1, hl1⟩ := I1.list hqx
  obtain ⟨its2, rv2, p2', hl2⟩ := I1.tuple hqy
  obtain ⟨ps, g1, g2, g3⟩ := zip_pairs rv hks rv2
  have lb : b < s1.heap.objs.size := by
    obtain ⟨o, ho, _⟩ := (show s1.heap.IsTuple b its2.toArray from p2')
    exact Heap.lt_size ho
  have la : a < s1.heap.objs.size := p1.lt
  have keyL : ∀ x ∈ ps, x.2.1 < s1.heap.objs.size ∧ (tupleKind (mixKind X.prog X.w)).is s1.heap x.1 x.2.1 := by
    have : ∀ {l : List (List Key × V)} {m : List (List Key × Addr × Value)}, KT H1 l m → ∀ x ∈ m, H1 x.2.1 = some (.tup (x.1.map kV)) := fun {l m} k => by
      induction k with
      | nil => simp
      | cons r _ ih =>
        intro x hx
        rcases List.mem_cons.mp hx with rfl | hx
        · rw [← r.1]; exact r.2.1
        · exact ih x hx
    intro x hx
    have hk := key_of I1.hok (this g3 x hx)
    obtain ⟨o, items, n, ho, hr⟩ := id hk
    exact ⟨Heap.lt_size ho, hk⟩
  generalize hN : s1.heap.objs.size = N at lb la keyL
  have hH1 : ∀ c, N ≤ c → H1 c = none := fun c h => I1.hok.fresh (by rw [hN]; exact h)
  have fr : ∀ c, c ∈ [N + 4, N + 2, N + 3, N, N + 1] → FpOk X pins H1 c := fun c hcm => by
    have hle : N ≤ c := by
      have : c = N + 4 ∨ c = N + 2 ∨ c = N + 3 ∨ c = N ∨ c = N + 1 := by simpa using hcm
      rcases this with z | z | z | z | z <;> rw [z] <;> first | exact Nat.le_add_right _ _ | exact Nat.le_refl _
    exact I1.fpOk (by rw [hN]; exact hle) (hH1 c hle)
  refine zip_begins2 (begins_list a its.toArray) (begins_tuple b its2.toArray) p1.isList p2' fun h' hz hTI hTO h1 h2 hsz hk => ?_
  rw [hN] at hz hTI hTO h1 h2 hsz ⊢
  have hh : X.A.handled = none := I1.ok.hd hc
  have S : ZipSep2 (N + 4) (N + 2) (N + 3) N (N + 1) [N, a] [N + 1, b] := zip_sep2 (fp1 := [a]) (fp2 := [b]) (fun c hc => by rw [List.mem_singleton.mp hc]; exact la) (fun c hc => by rw [List.mem_singleton.mp hc]; exact lb)
  have P := argZip (prog := X.prog) (w := X.w) S (fun A hA => Draws.list (A := A) hA N a (Nat.ne_of_lt la) its.toArray) (fun A hA => Draws.tuple (A := A) hA (N + 1) b (Nat.ne_of_lt (Nat.lt_succ_of_lt lb)) its2.toArray)
    (fun h ⟨⟨o, ho, _⟩, o2, ho2, _⟩ c hc => by
      have : c = N ∨ c = a := by simpa using hc
      rcases this with rfl | rfl
      · exact ⟨o, ho⟩
      · exact ⟨o2, ho2⟩)
    (fun h ⟨⟨o, ho, _⟩, o2, ho2, _⟩ c hc => by
      have : c = N + 1 ∨ c = b := by simpa using hc
      rcases this with rfl | rfl
      · exact ⟨o, ho⟩
      · exact ⟨o2, ho2⟩) X.A hh
  refine call_dict_pairsH (s := { s1 with heap := h' }) (knd := tupleKind (mixKind X.prog X.w)) (ps := ps) P hh (show X.A.units + 1 + 1 < cLine by omega)
    ⟨hz, hTI, ⟨_, _, hTO⟩, ⟨⟨_, h1, rfl, rfl⟩, p1.isList.at fun o e => hk _ _ e⟩, ⟨⟨_, h2, rfl, rfl⟩, (show s1.heap.IsTuple b its2.toArray from p2').at fun o e => hk _ _ e⟩⟩
    ⟨by rw [g1]; simp, fun i key v ⟨e1, e2⟩ => g2 i key v (by simpa using e1) (by simpa using e2)⟩ (fun h3 k3 x hx => ?_) (by
      have l1 := rv.length
      have l2 := rv2.length
      simp
      omega) fun h3 tk hd k3 => ?_
  · obtain ⟨hx1, o, items, n, ho, hr⟩ := keyL x hx
    generalize hxa : x.2.1 = xa at hx1 ho
    have hx1 : (xa : Nat) < N := hx1
    refine ⟨o, items, n, k3 _ _ (fun e => ?_) (fun e => ?_) (hk _ _ ho), hr⟩
    · exact lt_ne (k := 5) hx1 (e.trans hsz)
    · have e : xa = N + 4 ∨ xa = N + 3 ∨ xa = N ∨ xa = N + 1 := by simpa using e
      rcases e with e | e | e | e
      · exact lt_ne (k := 4) hx1 e
      · exact lt_ne (k := 3) hx1 e
      · exact lt_ne (k := 0) hx1 e
      · exact lt_ne (k := 1) hx1 e
  have hD : (({ s1 with heap := h' } : Shared).heap.objs.size) = N + 5 := hsz
  rw [hD] at hd ⊢
  have I2 : Inv X pins σ H1 { s1 with heap := h' } := I1.kept (t' := s1.toks) hk
  have hm5 : (N + 5 == sysModules) = false := beq_eq_false_iff_ne.mpr (fun e => lt_ne (k := 5) (show sysModules < N by rw [← hN]; exact I1.big) e.symm)
  have kt := kt_merge (acc := []) (xs := []) g3 .nil
  have hlen : (mergeT [] (kss.zip ys)).length ≤ sizeLine := by
    have e1 := Paired.length kt
    have e2 := storedAllH_length ps []
    have l1 := rv.length
    have l2 := rv2.length
    simp at e2
    omega
  have new : ObjOk X.prog X.w (upd H1 (N + 5) (.dT (mergeT [] (kss.zip ys)))) h3 (N + 5) (.dT (mergeT [] (kss.zip ys))) := ⟨hlen, hm5, _, kt.keeps fun c us e => by
    rw [upd_ne (fun e' => by rw [e', hH1 _ (by omega)] at e; cases e)]
    exact e, let ⟨ob, es, ep, g1, g2, g3, g4, _, g5⟩ := hd; ⟨ob, es, ep, g1, g2, g3, g4, g5⟩⟩
  have sub : ∀ c, c ∈ [N + 4, N + 3, N, N + 1] → c ∈ [N + 4, N + 2, N + 3, N, N + 1] := fun c hc => by
    have : c = N + 4 ∨ c = N + 3 ∨ c = N ∨ c = N + 1 := by simpa using hc
    rcases this with rfl | rfl | rfl | rfl <;> simp
  have I3 := I2.turnedNew (t' := tk) (ch := [N + 4, N + 2, N + 3, N, N + 1]) (h' := h3) (fun c ob hb e => k3 c ob (fun z => hb (sub c z)) e) fr (show (({ s1 with heap := h' } : Shared).heap.objs.size) ≤ N + 5 by rw [hD]; exact Nat.le_refl _) new
  exact ⟨.ref (N + 5), _, I3, rfl, q _ (hH1 _ (by omega))⟩
end
end Fx

set_option Elab.async false
set_option linter.all false
set_option maxRecDepth 100000
set_option maxHeartbeats 1000000
/-! Fx part 49: dict(zip(a list of tuples, a tuple)), read. -/
namespace Fx
open PySem PySem.Spec PyProof.Rows L2
def keysAll (kt : Bool) : List PV → Option (List (List Key))
  | [] => some []
  | x :: r => (keyTup kt x).bind fun k => (keysAll kt r).map (k :: ·)
theorem keysAll_rep {G : Gx} {kt : Bool} (hG : G.kt = kt) {ρ : List Addr} {H : Hp} : ∀ {xs : List PV} {vs : List V} {kss : List (List Key)}, Reps G ρ H xs vs → keysAll kt xs = some kss → KeysAt H vs kss
  | [], vs, kss, h, e => by
    cases e
    rw [show vs = [] from h]
    exact .nil
  | x :: xs, vs, kss, h, e => by
    obtain ⟨v, r, rfl, h1, h2⟩ := h
    unfold keysAll at e
    cases hk : keyTup kt x with
    | none => rw [hk] at e; cases e
    | some k =>
      rw [hk] at e
      dsimp only [Option.bind] at e
      cases hr : keysAll kt xs with
      | none => rw [hr] at e; cases e
      | some ks =>
        rw [hr] at e
        cases e
        exact .cons (keyTup_rep hG h1 hk) (keysAll_rep hG h2 hr)
theorem zip_drep {G : Gx} {ρ : List Addr} {H : Hp} : ∀ {kss : List (List Key)} {ys : List PV} {vs : List V}, Reps G ρ H ys vs → DRep G ρ H (kss.zip ys) (kss.zip vs)
  | [], _, _, _ => by simp; exact DRep.nil
  | _ :: _, [], vs, h => by
    rw [show vs = [] from h]
    exact DRep.nil
  | k :: kss, y :: ys, vs, h => by
    obtain ⟨v, r, rfl, h1, h2⟩ := h
    exact DRep.cons h1 (zip_drep h2)
theorem mergeT_rep {G : Gx} {ρ : List Addr} {H : Hp} : ∀ {kvs : List (List Key × PV)} {l : List (List Key × V)} {acc : List (List Key × PV)} {m : List (List Key × V)}, DRep G ρ H kvs l → DRep G ρ H acc m → DRep G ρ H (kvs.foldl (fun a kv => put a kv.1 kv.2) acc) (mergeT m l)
  | [], l, acc, m, h, k => by
    have : l = [] := List.eq_nil_of_length_eq_zero (by simpa using h.length.symm)
    subst this
    exact k
  | p :: kvs, l, acc, m, h, k => by
    obtain ⟨v, r, rfl, h1, h2⟩ := h.cons_inv
    exact mergeT_rep (acc := put acc p.1 p.2) (m := putK m p.1 v) h2 (k.put h1)
def hDictZip (kt : Bool) : PV → PV → Option Cell
  | .lst xs, .tup ys => (keysAll kt xs).map fun kss => .dt ((kss.zip ys).foldl (fun a kv => put a kv.1 kv.2) [])
  | _, _ => none
def nDictZip (kt : Bool) (g g2 : EF) : CF := fun s L => bnd (g s L) fun v L1 => bnd (g2 s L1) fun w L2 => ret (hDictZip kt v w) L2
section
variable {X : Cx} {c : FC} {e e2 : Expr} {g g2 : EF} {p p2 pos pos2 : Pos} {kt : Bool}
theorem nv_dictZip (hkt : c.kt = kt) (hc : X.calm = true) (hu : X.A.units + 64 < cLine) (hgd : Gl X "dict") (hmd : X.mg "dict" = none) (hg : Gl X "zip") (hm : X.mg "zip" = none) (h : EV X c e g) (h2 : EV X c e2 g2)
    (hse : starEach [Expr.Call (.Name "zip" p2) [e, e2] [] pos2] X.env = [(false, eval (Expr.Call (.Name "zip" p2) [e, e2] [] pos2) X.env)] := by rfl)
    (hs : starEach [e, e2] X.env = (false, eval e X.env) :: starEach [e2] X.env := by rfl) (hs2' : starEach (e2 :: []) X.env = (false, eval e2 X.env) :: starEach [] X.env := by rfl) (hpl : (backTo pos2 (starEach [e2] X.env)).any (·.1) = false := by rfl) :
    NV X c (.Call (.Name "dict" p) [.Call (.Name "zip" p2) [e, e2] [] pos2] [] pos) (nDictZip kt g g2) := by
  refine pe_imp (pe_dictZip hc (by omega) hgd hmd hg hm (pa_cons h (pa_cons h2 pa_nil hs2') hs) hse hs hpl) fun σ H Q q => ?_
  refine tOf.first (R := RE _) (R' := RN _) (k := fun s v L1 => bnd (g2 s L1) fun w L2 => ret (hDictZip kt v w) L2) q fun ρ L s v L1 ρ1 H1 u r e1 q1 o => ?_
  refine ⟨ρ1, L1, s, r, Ou.bind (R := RE _) (R' := RN _) o fun w L2 ρ2 H2 u2 _ e2 t2 q2 o2 => ?_⟩
  obtain ⟨zs, hz, k⟩ := Ou.ret o2
  have q1 := Rep.mono e2.toStb q1
  cases v with
  | lst xs =>
    cases w with
    | tup ys =>
      obtain ⟨kss, hk, hz⟩ := Option.map_eq_some_iff.mp hz
      subst hz
      obtain ⟨a, oa, vs, rfl, na, ha, hxs⟩ := q1
      obtain ⟨b, ws, rfl, hb, hys⟩ := q2
      refine ⟨a, b, vs, ws, kss, rfl, frzL Stb.refl na ha _, KTup.sq (G := gx X c.kt) hb, keysAll_rep (G := gx X c.kt) hkt hxs hk, fun D hD => ?_⟩
      refine k ρ2 _ _ (Ext.new hD) (t2.new hD) ?_
      exact ⟨D, rfl, t2.fresh hD, hD, _, upd_same, ((mergeT_rep (zip_drep hys) DRep.nil).mono (Ext.new hD).toStb)⟩
    | _ => cases hz
  | _ => cases w <;> cases hz
end
section
variable {g g2 : EF} {s : Slots} {L : Store} {kt : Bool}
@[simp] theorem nDictZip_at : nDictZip kt g g2 s L = bnd (g s L) fun v L1 => bnd (g2 s L1) fun w L2 => ret (hDictZip kt v w) L2 := rfl
end
end Fx

set_option Elab.async false
set_option linter.all false
set_option maxRecDepth 100000
set_option maxHeartbeats 3200000
/-! Fx part 50: set(a tuple of tuples of ints). -/
namespace Fx
open PySem PySem.Spec PyProof.Rows L2
section
variable {P : Program} {w : World} {A : Around} {E : Value → Shared → Prop} {s : Shared}
/-- what set.__new__ lays -/
def noSet (w : World) : Obj := { cls := .type "set", dict := none, data := .set #[] 0 (.fresh 0 0 (!w.params.followText "set-order")) }
/-- set(x) by its __init__ -/
theorem set_made {x : Value} {Q : Value → Shared → Prop} (init : codeAny (model P w) A.in1 (.call (.builtin "set.__init__") ⟨[.ref s.heap.objs.size, x], []⟩) (wants (fun r t => r = .none ∧ Q (.ref s.heap.objs.size) t) E) { s with heap := s.heap.push (noSet w) }) :
    wpAny (model P w) A (call (.type "set") [x]) Q E s := by
  obtain ⟨c, tl, hmro⟩ := F.called_set.mro
  have m1 := F.called_set.made
  have m2 := F.called_set.sub
  have m3 := F.called_set.notType
  have m4 := F.called_set.canCreate
  have m5 := F.typeCall_set_1 x
  refine wpAny_call (codeAny_of_tree ?_)
  show wpAny _ _ (callAny (.type "set") _) _ _ _
  refine wpAny_pure ⟨Code.quiet_builtin _ (by decide +kernel), codeAny_builtin F.entry_type_call ?_⟩
  rw [Around.under_plain (weight_type_call_type "set" [x] []) rfl]
  repeat (any_goals (first | assumption | wp_step))
  refine codeAny_mono (code_set_led1 x (E := E) (Q₁ := fun v t => v = .ref s.heap.objs.size ∧ t = { s with heap := s.heap.push (noSet w) }) ⟨rfl, rfl⟩) fun r t hr => ?_
  cases r with
  | error e => exact hr
  | ok f =>
    cases f with
    | ret v =>
      obtain ⟨rfl, rfl⟩ := hr
      have hT : Shared.TypeIs { s with heap := s.heap.push (noSet w) } (.ref s.heap.objs.size) "set" := ⟨_, Heap.get?_push_size _ rfl, rfl⟩
      have n1 := F.called_set.init.lookup
      have n2 := F.called_set.init.bind (.ref s.heap.objs.size)
      repeat (any_goals (first | assumption | wp_step))
      refine codeAny_mono init fun r2 t2 hr2 => ?_
      cases r2 with
      | error e => exact hr2
      | ok f2 =>
        cases f2 with
        | ret v2 =>
          obtain ⟨rfl, hq⟩ := hr2
          repeat (any_goals (first | assumption | wp_step))
        | _ => exact hr2.elim
    | _ => exact hr.elim
/-- its __init__, of a tuple of tuples -/
theorem init_tups {l : Addr} {items : Array Value} (ks : List (Addr × List Int)) {Q : Value → Shared → Prop} (hh : A.handled = none) (hl : s.heap.IsTuple l items) (hit : items.toList = ks.map fun p => Value.ref p.1)
    (hk : ∀ p ∈ ks, IsT P w s.heap p.2 p.1) (hfew : ks.length < 64) (hu : A.units + 2 < cLine)
    (h : ∀ (h' : Heap) (tk : Nat) L es ep t, SetTR P w h' s.heap.objs.size L es ep t → Got ks ks.length L → (∀ b o, s.heap.get? b = some o → h'.get? b = some o) → Q (.ref s.heap.objs.size) { s with heap := h', toks := tk }) :
    codeAny (model P w) A (.call (.builtin "set.__init__") ⟨[.ref s.heap.objs.size, .ref l], []⟩) (wants (fun r t => r = .none ∧ Q (.ref s.heap.objs.size) t) E) { s with heap := s.heap.push (noSet w) } := by
  have hT : Shared.TypeIs { s with heap := s.heap.push (noSet w) } (.ref s.heap.objs.size) "set" := ⟨_, Heap.get?_push_size _ rfl, rfl⟩
  refine codeAny_call_builtin F.called_set.init.plain F.entry_set_init (check_set_init_1 hT ?_)
  obtain ⟨⟨c0, d0, dt, sl⟩, ho, hc, n, hd⟩ := id hl
  dsimp only at hc hd
  subst hc hd
  have hlt := Heap.lt_size ho
  have ho1 : (s.heap.push (noSet w)).get? l = some { cls := .type "tuple", dict := d0, data := .seq items n, slots := sl } := Heap.get?_push_of_some _ ho
  have s1 := F.sub_tuple_set
  have s2 := F.sub_tuple_frozenset
  have s3 : (Value.type "tuple" == Value.type "dict") = false := by decide
  have hl1 : (s.heap.push (noSet w)).IsTuple l items := ⟨_, ho1, rfl, n, rfl⟩
  unfold Builtin.«set.__init__» noKeywords Builtin.Frozenset.updateFrom
  generalize hPI : pyIter = PI
  wp_walk
  subst hPI
  refine wpAny_pyIter_tuple hl1 (wpAny_bind (wpAny_runValue ?_))
  have big : (s.heap.push (noSet w)).objs.size = s.heap.objs.size + 1 := Heap.size_push ..
  have gone : ∀ b, s.heap.objs.size ≤ b → s.heap.get? b = none := fun b hb => by
    cases q : s.heap.get? b with
    | none => rfl
    | some o => exact absurd (Nat.lt_of_lt_of_le (Heap.lt_size q) hb) (Nat.lt_irrefl _)
  have isz : items.size = ks.length := by
    have q := congrArg List.length hit
    rwa [Array.length_toList, List.length_map] at q
  have val : ∀ (i : Nat) (v : Value), items[i]? = some v → ∃ p, ks[i]? = some p ∧ v = .ref p.1 := fun i v hv => by
    have q : (ks.map fun p => Value.ref p.1)[i]? = some v := by rw [← hit, Array.getElem?_toList]; exact hv
    rw [List.getElem?_map] at q
    obtain ⟨p, hp, e⟩ := Option.map_eq_some_iff.mp q
    exact ⟨p, hp, e.symm⟩
  have new0 : ((s.heap.push (noSet w)).push { cls := .type "tuple_iterator", data := .fields #[.ref l, .int 0 0] }).get? s.heap.objs.size = some (noSet w) := Heap.get?_push_of_some _ (Heap.get?_push_size _ rfl)
  refine set_update_tups ((Walks.tuple (A := A.in1.in1) hh _ l (by rw [big]; exact Nat.ne_of_lt (Nat.lt_succ_of_lt hlt)) items).toS) s.heap.objs.size ?_ ks isz hfew val s.heap hk (gone _ (Nat.le_refl _)) (fun b hb => gone b ?_) ?_ (items.size - 0) 0 _ (by omega) (Nat.zero_le _)
    ⟨⟨_, Heap.get?_push_size _ rfl, rfl, rfl⟩, hl1.push _⟩ (fun b o e => Heap.get?_push_of_some _ (Heap.get?_push_of_some _ e)) ⟨[], #[], 0, _, setTR_fresh new0, Got.zero ks⟩ fun t L es ep tb mv hS hg hkeep => ?_
  · rw [big]
    simp only [List.mem_cons, List.not_mem_nil, or_false, not_or]
    exact ⟨Nat.ne_of_lt (Nat.lt_succ_self _), Nat.ne_of_gt hlt⟩
  · rw [List.mem_singleton.mp hb, big]
    exact Nat.le_succ _
  · show A.units + 1 + 1 < cLine
    omega
  · obtain ⟨h', g', d', tk', os'⟩ := t
    obtain rfl : g' = s.gens := mv.gens
    obtain rfl : d' = s.drawn := mv.drawn
    obtain rfl : os' = s.os := mv.os
    rw [isz] at hg
    exact wpAny_pure (wpAny_pure ⟨rfl, h h' tk' L es ep tb hS hg hkeep⟩)
/-- set(xs), xs a tuple of tuples of ints -/
theorem set_tups {l : Addr} {items : Array Value} (ks : List (Addr × List Int)) {Q : Value → Shared → Prop} (hh : A.handled = none) (hl : s.heap.IsTuple l items) (hit : items.toList = ks.map fun p => Value.ref p.1)
    (hk : ∀ p ∈ ks, IsT P w s.heap p.2 p.1) (hfew : ks.length < 64) (hu : A.units + 3 < cLine)
    (h : ∀ (h' : Heap) (tk : Nat) L es ep t, SetTR P w h' s.heap.objs.size L es ep t → Got ks ks.length L → (∀ b o, s.heap.get? b = some o → h'.get? b = some o) → Q (.ref s.heap.objs.size) { s with heap := h', toks := tk }) :
    wpAny (model P w) A (call (.type "set") [.ref l]) Q E s :=
  set_made (init_tups (A := A.in1) ks hh hl hit hk hfew (show A.units + 1 + 2 < cLine by omega) h)
end
end Fx

set_option Elab.async false
set_option linter.all false
set_option maxRecDepth 100000
set_option maxHeartbeats 1000000
/-! Fx part 51: sorted(set(a tuple of pairs of ints)). -/
namespace Fx
open PySem PySem.Spec PyProof.Rows L2
theorem code2 (B x y : Int) : TS.code B [x, y] = x * B + y := by
  show x * B ^ 1 + (y * B ^ 0 + 0) = _
  rw [Int.pow_succ, Int.pow_zero, Int.one_mul, Int.mul_one, Int.add_zero]
def ltP (p q : Int × Int) : Prop := p.1 < q.1 ∨ (p.1 = q.1 ∧ p.2 < q.2)
theorem code_lex {B x y x' y' : Int} (h : x * B + y ≤ x' * B + y') (ne : ¬ (x = x' ∧ y = y')) (b : 0 ≤ y ∧ y < B) (b' : 0 ≤ y' ∧ y' < B) : ltP (x, y) (x', y') := by
  unfold ltP
  dsimp only
  by_cases h1 : x' < x
  · have : (x' + 1) * B ≤ x * B := Int.mul_le_mul_of_nonneg_right (by omega) (by omega)
    rw [Int.add_mul] at this
    omega
  · by_cases h2 : x = x'
    · subst h2
      omega
    · omega
theorem bound_of : ∀ ks : List (Addr × Int × Int), ∃ B : Int, ∀ z ∈ ks, z.2.1 < B ∧ z.2.2 < B
  | [] => ⟨0, fun _ h => nomatch h⟩
  | z :: ks => by
    obtain ⟨B, h⟩ := bound_of ks
    refine ⟨max B (max z.2.1 z.2.2 + 1), fun y hy => ?_⟩
    rcases List.mem_cons.mp hy with rfl | hy
    · omega
    · have := h y hy
      omega
def tSrtSet (K : PySem.W.Frag) (ta : TA) : TE := fun σ H Q => ta σ H fun vs H1 => ∃ (l : Addr) (ks : List (Addr × Int × Int)), vs = [.ref l] ∧ SqT K H1 l (ks.map fun z => V.ref z.1) ∧ (∀ z ∈ ks, SqT K H1 z.1 [.int z.2.1, .int z.2.2]) ∧ ks.length < 64 ∧ (∀ z ∈ ks, 0 ≤ z.2.1 ∧ 0 ≤ z.2.2) ∧
  ∀ (H2 : Hp) (p : Addr) (zs : List (Addr × Int × Int)), (∀ b o, H1 b = some o → H2 b = some o) → H1 p = none → (∀ z ∈ zs, z ∈ ks) → (∀ z ∈ ks, z.2 ∈ zs.map (·.2)) → (zs.map (·.2)).Pairwise ltP → H2 p = some (.lst (zs.map fun z => V.ref z.1)) → Q (.ref p) H2
def enL (z : Addr × Int × Int) : Addr × List Int := (z.1, [z.2.1, z.2.2])
theorem en_all {ks : List (Addr × Int × Int)} : ∀ L' : List (Addr × List Int), (∀ p ∈ L', ∃ z ∈ ks, p = enL z) → ∃ zs : List (Addr × Int × Int), L' = zs.map enL ∧ ∀ z ∈ zs, z ∈ ks
  | [], _ => ⟨[], rfl, fun _ h => nomatch h⟩
  | a :: L', h => by
    obtain ⟨z, hz, e⟩ := h a (by simp)
    obtain ⟨zs, e2, h2⟩ := en_all L' fun p hp => h p (by simp [hp])
    refine ⟨z :: zs, by rw [e, e2]; rfl, fun y hy => ?_⟩
    rcases List.mem_cons.mp hy with q | q
    · rw [q]; exact hz
    · exact h2 y q
section
variable {X : Cx} {e : Expr} {ta : TA} {p p2 pos pos2 : Pos}
theorem pe_srtSet (hc : X.calm = true) (hu : X.A.units + 64 < cLine) (hgs : Gl X "sorted") (hms : X.mg "sorted" = none) (hg : Gl X "set") (hm : X.mg "set" = none) (ha : PA X [e] ta)
    (hse : starEach [Expr.Call (.Name "set" p2) [e] [] pos2] X.env = [(false, eval (Expr.Call (.Name "set" p2) [e] [] pos2) X.env)] := by rfl)
    (hs : starEach [e] X.env = (false, eval e X.env) :: starEach [] X.env := by rfl) (hpl : (backTo pos2 (starEach [] X.env)).any (·.1) = false := by rfl) :
    PE X (.Call (.Name "sorted" p) [.Call (.Name "set" p2) [e] [] pos2] [] pos) (tSrtSet X.K ta) := by
  refine ⟨fun pins s σ H Q I h => ?_⟩
  refine wpAny_Call_Name_kw (ld_blt I hgs hms (u := .builtin "sorted") (by decide +kernel) ?_)
  rw [hse]
  refine PySem.callWith_builtin1 (Call_ (ld_blt I hg hm boot_set (PyProof.Rows.callWith_type1 (thn (ha.run pos2 pins s σ H _ I h) fun us s1 ⟨vs, H1, I1, r1, l, ks, ex, hl, hk, hf, h0, q⟩ => ?_) hs hpl)))
  subst ex
  obtain ⟨its, rv, pl, hz⟩ := I1.tuple hl
  rw [Vals.ref1 r1]
  have e1 : (ks.map fun z => V.ref z.1) = (ks.map enL).map fun p => V.ref p.1 := by rw [List.map_map]; rfl
  rw [e1] at rv
  have hn1 : H1 s1.heap.objs.size = none := I1.hok.fresh (Nat.le_refl _)
  have hkT : ∀ p ∈ ks.map enL, SqT X.K H1 p.1 (p.2.map V.int) := fun p hp => by
    obtain ⟨z, hz, rfl⟩ := List.mem_map.mp hp
    exact hk z hz
  refine set_tups (P := X.prog) (w := X.w) (ks.map enL) (I1.ok.hd hc) (show s1.heap.IsTuple l its.toArray from pl) (by simpa using refs_of_vals rv) (fun p hp => I1.isT (hkT p hp)) (by rw [List.length_map]; exact hf) (by omega) fun h' tk L es ep t R g k => ?_
  have I2 := I1.laid (t' := tk) k (Nat.le_refl _) (setTO_new R.t0)
  have hL : ∀ p ∈ L, p ∈ ks.map enL := fun p hp => List.mem_of_mem_take (g.sub p hp)
  have keep1 : ∀ b o, H1 b = some o → upd H1 s1.heap.objs.size (SetTO X.prog X.w s1.heap.objs.size L) b = some o := fun b o e => by rw [upd_ne (ne_of_none e hn1)]; exact e
  obtain ⟨B, hB⟩ := bound_of ks
  refine (cr_sortedT hc) pins _ σ _ [V.ref s1.heap.objs.size] _ Q I2 (.cons rfl .nil) ⟨_, L, 2, B, rfl, upd_same, fun p hp => ?_, by decide, fun p hp => ?_, fun L' b pm nd _ pw hb => ?_⟩
  · rcases hkT p (hL p hp) with (q1 | ⟨o, q1⟩) | q1
    · exact .inl (.inl (keep1 _ _ q1))
    · exact .inl (.inr ⟨o, keep1 _ _ q1⟩)
    · exact .inr q1
  · obtain ⟨z, hz, rfl⟩ := List.mem_map.mp (hL p hp)
    have a1 := h0 z hz
    have a2 := hB z hz
    refine ⟨rfl, fun x hx => ?_⟩
    simp only [enL, List.mem_cons, List.not_mem_nil, or_false] at hx
    rcases hx with rfl | rfl <;> omega
  · have hL' : ∀ p ∈ L', ∃ z ∈ ks, p = enL z := fun p hp => by
      obtain ⟨z, hz, e⟩ := List.mem_map.mp (hL p (pm.mem_iff.mp hp))
      exact ⟨z, hz, e.symm⟩
    have hzs := en_all L' hL'
    obtain ⟨zs, rfl, hzs⟩ := hzs
    have hb1 : H1 b = none := by
      cases hq : H1 b with
      | none => rfl
      | some o => rw [keep1 b o hq] at hb; cases hb
    refine q _ b zs (fun c o e => by rw [upd_ne (ne_of_none (keep1 c o e) hb)]; exact keep1 c o e) hb1 hzs (fun z hz => ?_) ?_ (by
      have : (zs.map enL).map (fun q => V.ref q.1) = zs.map fun z => V.ref z.1 := by rw [List.map_map]; rfl
      rw [← this]
      exact upd_same)
    · have h1 := g.all (enL z) (by rw [List.take_length]; exact List.mem_map_of_mem hz)
      obtain ⟨p, hp, e⟩ := List.mem_map.mp h1
      obtain ⟨y, hy, rfl⟩ := List.mem_map.mp (pm.mem_iff.mpr hp)
      have e : [y.2.1, y.2.2] = [z.2.1, z.2.2] := e
      refine List.mem_map.mpr ⟨y, hy, ?_⟩
      simp only [List.cons.injEq, and_true] at e
      exact Prod.ext e.1 e.2
    · rw [List.map_map] at nd
      rw [List.pairwise_map] at pw ⊢
      have nd := List.pairwise_map.mp nd
      refine (pw.and nd).imp_of_mem fun {x y} hx hy hxy => ?_
      obtain ⟨c1, c2⟩ := hxy
      have c1 : TS.code B [x.2.1, x.2.2] ≤ TS.code B [y.2.1, y.2.2] := c1
      rw [code2, code2] at c1
      have a1 := h0 x (hzs x hx)
      have a2 := hB x (hzs x hx)
      have a3 := h0 y (hzs y hy)
      have a4 := hB y (hzs y hy)
      exact code_lex c1 (fun q => c2 (by
        show [x.2.1, x.2.2] = [y.2.1, y.2.2]
        rw [q.1, q.2])) ⟨a1.2, a2.2⟩ ⟨a3.2, a4.2⟩
end
end Fx

set_option Elab.async false
set_option linter.all false
set_option maxRecDepth 100000
set_option maxHeartbeats 1000000
/-! Fx part 52: sorted(set(a tuple of pairs of ints)), read. -/
namespace Fx
open PySem PySem.Spec PyProof.Rows L2
/-- each once -/
def onceP : List (Int × Int) → List (Int × Int)
  | [] => []
  | x :: r => if x ∈ r then onceP r else x :: onceP r
theorem mem_once {x : Int × Int} : ∀ {r : List (Int × Int)}, x ∈ onceP r ↔ x ∈ r
  | [] => Iff.rfl
  | y :: r => by
    unfold onceP
    split
    · rename_i h
      rw [mem_once, List.mem_cons]
      exact ⟨.inr, fun q => q.elim (fun e => by rw [e]; exact h) id⟩
    · rw [List.mem_cons, List.mem_cons, mem_once]
theorem nodup_once : ∀ r : List (Int × Int), (onceP r).Nodup
  | [] => List.nodup_nil
  | y :: r => by
    unfold onceP
    split
    · exact nodup_once r
    · rename_i h
      exact List.nodup_cons.mpr ⟨fun q => h (mem_once.mp q), nodup_once r⟩
theorem once_len : ∀ r : List (Int × Int), (onceP r).length ≤ r.length
  | [] => Nat.le_refl _
  | y :: r => by
    unfold onceP
    have := once_len r
    split
    · rw [List.length_cons]; omega
    · rw [List.length_cons, List.length_cons]; omega
theorem sorted_once {ys ks : List (Int × Int)} (h1 : ∀ y ∈ ys, y ∈ ks) (h2 : ∀ k ∈ ks, k ∈ ys) (hs : ys.Pairwise ltP) : ys = sortPr (onceP ks) := by
  have nd : ys.Nodup := hs.imp fun {a b} h e => by
    subst e
    unfold ltP at h
    omega
  exact sortPr_eq ((List.perm_ext_iff_of_nodup nd (nodup_once ks)).mpr fun y => ⟨fun h => mem_once.mpr (h1 y h), fun h => h2 y (mem_once.mp h)⟩) (hs.imp fun {a b} h => by
    unfold ltP at h
    unfold FT.leP
    omega)
def hSrtSet : PV → Option Cell
  | .tup xs => (pairInts xs).bind fun ks => if ks.length < 64 ∧ (ks.all fun k => decide (0 ≤ k.1 ∧ 0 ≤ k.2)) = true then some (.lst ((sortPr (onceP ks)).map pvPair)) else none
  | _ => none
def nSrtSet (g : EF) : CF := fun s L => bnd (g s L) fun v L1 => ret (hSrtSet v) L1
section
variable {X : Cx} {c : FC} {e : Expr} {g : EF} {p p2 pos pos2 : Pos}
theorem nv_srtSet (hc : X.calm = true) (hu : X.A.units + 64 < cLine) (hgs : Gl X "sorted") (hms : X.mg "sorted" = none) (hg : Gl X "set") (hm : X.mg "set" = none) (h : EV X c e g)
    (hse : starEach [Expr.Call (.Name "set" p2) [e] [] pos2] X.env = [(false, eval (Expr.Call (.Name "set" p2) [e] [] pos2) X.env)] := by rfl)
    (hs : starEach (e :: []) X.env = (false, eval e X.env) :: starEach [] X.env := by rfl) (hpl : (backTo pos2 (starEach [] X.env)).any (·.1) = false := by rfl) :
    NV X c (.Call (.Name "sorted" p) [.Call (.Name "set" p2) [e] [] pos2] [] pos) (nSrtSet g) := by
  refine pe_imp (pe_srtSet hc hu hgs hms hg hm (pa_cons h pa_nil hs) hse hs hpl) fun σ H Q q => ?_
  refine tOf.first (R := RE _) (R' := RN _) (k := fun s v L1 => ret (hSrtSet v) L1) q fun ρ L s v L1 ρ1 H1 u r e1 q1 o => ?_
  obtain ⟨z, hz, k⟩ := Ou.ret o
  cases v with
  | tup xs =>
    unfold hSrtSet at hz
    dsimp only at hz
    cases hp : pairInts xs with
    | none => rw [hp] at hz; cases hz
    | some ks =>
      rw [hp] at hz
      dsimp only [Option.bind] at hz
      split at hz
      · rename_i hok
        cases hz
        have := pairInts_some hp
        subst this
        obtain ⟨b, ws, rfl, hb, hs2⟩ := q1
        obtain ⟨ts, rfl, p1, p2⟩ := pairs_paired hs2
        obtain ⟨hlen, gr⟩ := FT.paired_get p2
        obtain ⟨hlen1, gs⟩ := FT.paired_get p1
        have e1 : (ts.zip ks).map (fun z => V.ref z.1) = ts.map V.ref := by
          have : (ts.zip ks).map (·.1) = ts := List.map_fst_zip (by omega)
          conv => rhs; rw [← this, List.map_map]
          rfl
        have e2 : (ts.zip ks).map (·.2) = ks := List.map_snd_zip (by omega)
        refine ⟨b, ts.zip ks, rfl, by rw [e1]; exact KTup.sq (G := gx X c.kt) hb, fun z hz => gs z hz, ?_, fun z hz => ?_, fun H2 a zs k1 k2 k3 k4 k5 k6 => ?_⟩
        · have := congrArg List.length e2
          rw [List.length_map] at this
          omega
        · have := List.all_eq_true.mp hok.2 z.2 (List.of_mem_zip hz).2
          simpa using this
        · have hs3 : zs.map (·.2) = sortPr (onceP ks) := sorted_once (fun y hy => by
            obtain ⟨z, hz, rfl⟩ := List.mem_map.mp hy
            exact (List.of_mem_zip (k3 z hz)).2) (fun y hy => by
            rw [← e2] at hy
            obtain ⟨z, hz, rfl⟩ := List.mem_map.mp hy
            exact k4 z hz) k5
          have hrep := reps_of_mem (G := gx X c.kt) (ρ := ρ1) (H := H1) zs fun z hz => gr z (k3 z hz)
          rw [hs3] at hrep
          refine k ρ1 H2 _ (Ext.same k1) (r.st.same k1) ⟨a, rfl, r.st.fresh k2, k2, _, k6, hrep.mono (Ext.same k1).toStb⟩
      · cases hz
  | _ => cases hz
end
section
variable {g : EF} {s : Slots} {L : Store}
@[simp] theorem nSrtSet_at : nSrtSet g s L = bnd (g s L) fun v L1 => ret (hSrtSet v) L1 := rfl
end
end Fx


set_option Elab.async false
set_option linter.all false
set_option maxRecDepth 100000
set_option maxHeartbeats 1000000
namespace G
open PySem L2 Fx
def tc (ns : List Int) (a b : Int) : Cell := .lst [.lst (ns.map PV.int), .int a, .int b]
def TL (n : Nat) (L0 : Store) (m : Nat) (L : Store) : Prop := ∃ ns a b, 0 ≤ a ∧ a + (m : Int) ≤ 2 ^ 100 ∧ n < L0.length ∧ L = L0.set n (tc ns a b)
theorem log2_le {a : Nat} {k : Nat} (h : a < 2 ^ k) : a.log2 < k ∨ a = 0 := by
  by_cases ha : a = 0
  · exact .inr ha
  · exact .inl ((Nat.log2_lt ha).mpr h)
theorem log2_lt' {a : Nat} {k : Nat} (hk : 0 < k) (h : a < 2 ^ k) : a.log2 < k := by
  rcases log2_le h with q | rfl
  · exact q
  · simpa using hk
theorem tc_set1 {kt : Bool} {ns : List Int} {a b x : Int} : setC kt (tc ns a b) (.int 1) (.int x) = some (tc ns x b) := rfl
theorem tc_set2 {kt : Bool} {ns : List Int} {a b x : Int} : setC kt (tc ns a b) (.int 2) (.int x) = some (tc ns a x) := rfl
theorem tc_ix {kt : Bool} {n : Nat} {L : Store} {ns : List Int} {a b : Int} (h : L[n]? = some (tc ns a b)) : hIx kt L (.v (.loc n)) (.int 0) = some (.lst (ns.map PV.int)) ∧ hIx kt L (.v (.loc n)) (.int 1) = some (.int a) ∧ hIx kt L (.v (.loc n)) (.int 2) = some (.int b) := by
  unfold hIx
  simp [h, tc]
theorem pmod (x : Int) : (x % 2305843009213693951).natAbs.log2 < 61 := by
  have h1 := Int.emod_nonneg x (by decide : (2305843009213693951 : Int) ≠ 0)
  have h2 := Int.emod_lt_of_pos x (by decide : (0 : Int) < 2305843009213693951)
  exact log2_lt' (by decide) (by omega)
theorem TL.mono {n : Nat} {L0 L : Store} {m m' : Nat} (h : TL n L0 m L) (hm : m' ≤ m) : TL n L0 m' L := by
  obtain ⟨ns, a, b, h1, h2, h3, h4⟩ := h
  exact ⟨ns, a, b, h1, by omega, h3, h4⟩
def isW : PV → Bool
  | .int _ => true
  | _ => false
def inW (a b : Int) : PV → Bool
  | .int i => decide (a ≤ i) && decide (i ≤ b)
  | _ => false
theorem cut_1 {xs : List PV} : cutP xs (some 1) none = xs.tail := by
  unfold cutP
  have e : HT.sIx xs.length 0 (some 1) = min 1 xs.length := HT.sIx_nat xs.length 0 1
  rw [e, HT.sIx_none]
  cases xs with
  | nil => rfl
  | cons x r =>
    have : min 1 (x :: r).length = 1 := by simp
    rw [this]
    simp
theorem two_of {ys : List PV} (h : ys.length = 2) : ∃ a b, ys = [a, b] := by
  match ys, h with
  | [a, b], _ => exact ⟨a, b, rfl⟩
theorem three_of {ys : List PV} (h : ys.length = 3) : ∃ a b c, ys = [a, b, c] := by
  match ys, h with
  | [a, b, c], _ => exact ⟨a, b, c, rfl⟩
def D (n : Nat) : Nat → PV → Prop
  | _, .non => True
  | _, .bl _ => True
  | _, .int i => i.natAbs ≤ 2 ^ 60 + 1000 * n
  | _, .str x => x.length ≤ n ∧ PyData.strOk x = true
  | d + 1, .tup xs => xs.length ≤ n ∧ ∀ x ∈ xs, D n d x
  | d + 1, .lst xs => xs.length ≤ n ∧ ∀ x ∈ xs, D n d x
  | _, _ => False
theorem D.mono {n : Nat} : ∀ {d d' n' : Nat} {v : PV}, D n d v → n ≤ n' → d ≤ d' → D n' d' v
  | d, d', n', .non, _, _, _ => by cases d' <;> exact True.intro
  | d, d', n', .bl _, _, _, _ => by cases d' <;> exact True.intro
  | d, d', n', .int i, h, hn, _ => by
    have h : i.natAbs ≤ 2 ^ 60 + 1000 * n := by cases d <;> exact h
    have : i.natAbs ≤ 2 ^ 60 + 1000 * n' := by omega
    cases d' <;> exact this
  | d, d', n', .str x, h, hn, _ => by
    have h : x.length ≤ n ∧ PyData.strOk x = true := by cases d <;> exact h
    have : x.length ≤ n' ∧ PyData.strOk x = true := ⟨by omega, h.2⟩
    cases d' <;> exact this
  | 0, _, _, .tup xs, h, _, _ => h.elim
  | d + 1, 0, _, .tup xs, h, _, hd => absurd hd (by omega)
  | d + 1, d' + 1, n', .tup xs, h, hn, hd => ⟨Nat.le_trans h.1 hn, fun x hx => D.mono (h.2 x hx) hn (Nat.le_of_succ_le_succ hd)⟩
  | 0, _, _, .lst xs, h, _, _ => h.elim
  | d + 1, 0, _, .lst xs, h, _, hd => absurd hd (by omega)
  | d + 1, d' + 1, n', .lst xs, h, hn, hd => ⟨Nat.le_trans h.1 hn, fun x hx => D.mono (h.2 x hx) hn (Nat.le_of_succ_le_succ hd)⟩
  | d, _, _, .dk _ _, h, _, _ => by cases d <;> exact h.elim
  | d, _, _, .dt _ _, h, _, _ => by cases d <;> exact h.elim
  | d, _, _, .loc _, h, _, _ => by cases d <;> exact h.elim
  | d, _, _, .scr _, h, _, _ => by cases d <;> exact h.elim
theorem D.okP {n d : Nat} {v : PV} (h : D n d v) : Fx.okP v = true := by
  cases v <;> first | rfl | (cases d <;> exact h.elim)
theorem D.tup {n d : Nat} {xs : List PV} (h : D n d (.tup xs)) : ∃ d', d = d' + 1 ∧ xs.length ≤ n ∧ ∀ x ∈ xs, D n d' x := by
  cases d with
  | zero => exact h.elim
  | succ d => exact ⟨d, rfl, h⟩
theorem D.lst {n d : Nat} {xs : List PV} (h : D n d (.lst xs)) : ∃ d', d = d' + 1 ∧ xs.length ≤ n ∧ ∀ x ∈ xs, D n d' x := by
  cases d with
  | zero => exact h.elim
  | succ d => exact ⟨d, rfl, h⟩
theorem D.int' {n d : Nat} {i : Int} (h : i.natAbs ≤ 2 ^ 60 + 1000 * n) : D n d (.int i) := by cases d <;> exact h
theorem D.str' {n d : Nat} {x : Str} (h : x.length ≤ n) (h2 : PyData.strOk x = true) : D n d (.str x) := by cases d <;> exact ⟨h, h2⟩
theorem D.bl' {n d : Nat} {b : Bool} : D n d (.bl b) := by cases d <;> exact True.intro
theorem D.non' {n d : Nat} : D n d .non := by cases d <;> exact True.intro
theorem strOk_add {x y : Str} (h1 : PyData.strOk x = true) (h2 : PyData.strOk y = true) : PyData.strOk (x ++ y) = true := by
  unfold PyData.strOk at *
  show (x.cps ++ y.cps).all _ = true
  rw [Array.all_append, h1, h2]
  rfl
theorem add_length (x y : Str) : (x ++ y).length = x.length + y.length := by
  show (x.cps ++ y.cps).size = _
  rw [Array.size_append]
  rfl
theorem cutS_ok {x : Str} {lo hi : Option Int} (h : PyData.strOk x = true) : PyData.strOk (cutS x lo hi) = true ∧ (cutS x lo hi).length ≤ x.length := by
  unfold PyData.strOk at *
  rw [Array.all_eq_true'] at h
  constructor
  · rw [Array.all_eq_true']
    intro c hc
    unfold cutS at hc
    simp only [List.mem_toArray] at hc
    exact h c (Array.mem_toList_iff.mp (List.mem_of_mem_drop (List.mem_of_mem_take hc)))
  · show (cutS x lo hi).cps.size ≤ _
    unfold cutS
    simp [Str.length]
    omega
theorem setC_l {kt : Bool} {xs : List PV} {j : Nat} {x : PV} (h : j < xs.length) : setC kt (.lst xs) (.int j) x = some (.lst (xs.set j x)) := by
  show (ixN xs.length j).map (fun j => Cell.lst (xs.set j x)) = _
  unfold ixN
  simp [h]
theorem mPop_l {xs : List PV} {j : Nat} (h : j < xs.length) (h2 : xs.length < 1000) : mPop (.lst xs) [.int j] = some (.lst (xs.eraseIdx j)) := by
  unfold mPop
  dsimp only
  rw [if_pos ⟨by omega, by omega⟩]
  unfold ixN
  simp [h]
theorem mInsert_l {xs : List PV} {j : Nat} {x : PV} (h : j < xs.length) (h2 : xs.length < 1000) : mInsert (.lst xs) [.int j, x] = some (.lst (xs.take j ++ [x] ++ xs.drop j)) := by
  unfold mInsert
  dsimp only
  rw [if_pos ⟨by omega, by omega, Nat.lt_of_lt_of_le h2 (by decide)⟩]
  simp
def costS : Nat → Nat
  | 0 => 0
  | n + 1 => 100 + costS n
def costA : Nat → Nat
  | 0 => 0
  | n + 1 => 4 + 3 * costA n
theorem costA3 : costA 3 = 52 := rfl
def seqP (b : Bool) (xs : List PV) : PV := if b = true then .tup xs else .lst xs
theorem seqP_ok (b : Bool) (xs : List PV) : okP (seqP b xs) = true := by cases b <;> rfl
theorem seqP_t (b : Bool) (xs : List PV) : isP .tuple (seqP b xs) = b := by cases b <;> rfl
theorem seqP_l (b : Bool) (xs : List PV) : isP .list (seqP b xs) = !b := by cases b <;> rfl
theorem seqP_len {L : Store} (b : Bool) (xs : List PV) : hLen L (.v (seqP b xs)) = some (.int xs.length) := by cases b <;> rfl
theorem seqP_list {L : Store} (b : Bool) (xs : List PV) : nList L (.v (seqP b xs)) = some (.lst xs) := by cases b <;> rfl
theorem seqP_tuple {L : Store} (b : Bool) (xs : List PV) : hTuple L (.v (seqP b xs)) = some (.tup xs) := by cases b <;> rfl
theorem seqP_int (b : Bool) (xs : List PV) : isP .int (seqP b xs) = false := by cases b <;> rfl
theorem seqP_str (b : Bool) (xs : List PV) : isP .str (seqP b xs) = false := by cases b <;> rfl
theorem seqP_isW (b : Bool) (xs : List PV) : isW (seqP b xs) = false := by cases b <;> rfl
theorem seqP_D {n d : Nat} {b : Bool} {xs : List PV} : D n (d + 1) (seqP b xs) ↔ (xs.length ≤ n ∧ ∀ x ∈ xs, D n d x) := by cases b <;> rfl
theorem seqP_ix {kt : Bool} {L : Store} (b : Bool) (xs : List PV) (i : Int) : hIx kt L (.v (seqP b xs)) (.int i) = atI xs i := by cases b <;> rfl
theorem seq_D {n d : Nat} {xs : List PV} (h1 : xs.length ≤ n) (h2 : ∀ x ∈ xs, D n d x) : D n (d + 1) (.tup xs) := ⟨h1, h2⟩
theorem seq_Dl {n d : Nat} {xs : List PV} (h1 : xs.length ≤ n) (h2 : ∀ x ∈ xs, D n d x) : D n (d + 1) (.lst xs) := ⟨h1, h2⟩
theorem cutP_mem {xs : List PV} {lo hi : Option Int} {x : PV} (h : x ∈ cutP xs lo hi) : x ∈ xs := List.mem_of_mem_drop (List.mem_of_mem_take h)
theorem cutP_len {xs : List PV} {lo hi : Option Int} : (cutP xs lo hi).length ≤ xs.length := by
  unfold cutP
  simp
  omega
theorem atI_last {xs : List PV} {x : PV} : atI (xs ++ [x]) (-1) = some x := by
  unfold atI ixN
  have e1 : (-1 + ((xs.length : Int) + 1)).toNat = xs.length := by omega
  have e2 : (1 : Int) ≤ (xs.length : Int) + 1 := by omega
  simp [e1, e2]
mutual
def DB (n : Nat) : Nat → PV → Bool
  | _, .non => true
  | _, .bl _ => true
  | _, .int i => decide (i.natAbs ≤ 2 ^ 60 + 1000 * n)
  | _, .str x => decide (x.length ≤ n) && PyData.strOk x
  | d + 1, .tup xs => decide (xs.length ≤ n) && DBs n d xs
  | d + 1, .lst xs => decide (xs.length ≤ n) && DBs n d xs
  | _, _ => false
def DBs (n : Nat) : Nat → List PV → Bool
  | _, [] => true
  | d, x :: xs => DB n d x && DBs n d xs
end
mutual
theorem DB_D {n : Nat} : ∀ {d : Nat} {v : PV}, DB n d v = true → D n d v
  | _, .non, _ => D.non'
  | _, .bl _, _ => D.bl'
  | d, .int i, h => D.int' (by simpa [DB] using h)
  | d, .str x, h => by
    have h : decide (x.length ≤ n) = true ∧ PyData.strOk x = true := by simpa [DB] using h
    exact D.str' (by simpa using h.1) h.2
  | 0, .tup xs, h => by simp [DB] at h
  | d + 1, .tup xs, h => by
    have h : xs.length ≤ n ∧ DBs n d xs = true := by simpa [DB] using h
    exact ⟨h.1, DBs_D h.2⟩
  | 0, .lst xs, h => by simp [DB] at h
  | d + 1, .lst xs, h => by
    have h : xs.length ≤ n ∧ DBs n d xs = true := by simpa [DB] using h
    exact ⟨h.1, DBs_D h.2⟩
  | d, .dk _ _, h => by cases d <;> simp [DB] at h
  | d, .dt _ _, h => by cases d <;> simp [DB] at h
  | d, .loc _, h => by cases d <;> simp [DB] at h
  | d, .scr _, h => by cases d <;> simp [DB] at h
theorem DBs_D {n : Nat} : ∀ {d : Nat} {xs : List PV}, DBs n d xs = true → ∀ x ∈ xs, D n d x
  | _, [], _, x, hx => by simp at hx
  | d, y :: ys, h, x, hx => by
    have h : DB n d y = true ∧ DBs n d ys = true := by simpa [DBs] using h
    rcases List.mem_cons.mp hx with q | q
    · rw [q]; exact DB_D h.1
    · exact DBs_D h.2 x q
end
def Pl : Nat → PV → Prop
  | _, .non => True
  | _, .bl _ => True
  | _, .int _ => True
  | _, .str x => PyData.strOk x = true
  | d + 1, .tup xs => xs.length ≤ 1000 ∧ ∀ x ∈ xs, Pl d x
  | d + 1, .lst xs => xs.length ≤ 1000 ∧ ∀ x ∈ xs, Pl d x
  | _, _ => False
theorem Pl.ok {d : Nat} {v : PV} (h : Pl d v) : okP v = true := by
  cases v <;> first | rfl | (cases d <;> exact h.elim)
end G

set_option Elab.async false
set_option linter.all false
set_option maxRecDepth 100000
set_option maxHeartbeats 1000000
namespace G
open PySem L2 Fx
/-! ### stretches -/
abbrev NP := Nat × Nat
def npP (p : NP) : PV := .tup [.int p.1, .int p.2]
def badB (fs : List NP) (at_ : Nat) : Bool := fs.any fun p => decide (p.1 ≤ at_) && decide (at_ < p.2)
def cov (S : List NP) (x : Nat) : Prop := ∃ p ∈ S, p.1 ≤ x ∧ x < p.2
def StrOk (S : List NP) : Prop := S.Pairwise (fun a b => a.2 < b.1) ∧ ∀ p ∈ S, p.1 < p.2
theorem badB_iff {fs : List NP} {x : Nat} : badB fs x = true ↔ cov fs x := by
  unfold badB cov
  simp
theorem StrOk.tail {p : NP} {S : List NP} (h : StrOk (p :: S)) : StrOk S := ⟨(List.pairwise_cons.mp h.1).2, fun q hq => h.2 q (by simp [hq])⟩
theorem StrOk.ge {p : NP} {S : List NP} (h : StrOk (p :: S)) {x : Nat} (hx : cov S x) : p.2 < x := by
  obtain ⟨q, hq, h1, h2⟩ := hx
  have := (List.pairwise_cons.mp h.1).1 q hq
  omega
theorem str_uniq : ∀ {S T : List NP}, StrOk S → StrOk T → (∀ x, cov S x ↔ cov T x) → S = T
  | [], [], _, _, _ => rfl
  | [], q :: T, _, ht, h => by
    have := (h q.1).mpr ⟨q, by simp, Nat.le_refl _, ht.2 q (by simp)⟩
    obtain ⟨_, hp, _⟩ := this
    cases hp
  | p :: S, [], hs, _, h => by
    have := (h p.1).mp ⟨p, by simp, Nat.le_refl _, hs.2 p (by simp)⟩
    obtain ⟨_, hp, _⟩ := this
    cases hp
  | p :: S, q :: T, hs, ht, h => by
    have lp := hs.2 p (by simp)
    have lq := ht.2 q (by simp)
    have cS : ∀ x, cov (p :: S) x ↔ (p.1 ≤ x ∧ x < p.2) ∨ cov S x := fun x => by simp [cov]
    have cT : ∀ x, cov (q :: T) x ↔ (q.1 ≤ x ∧ x < q.2) ∨ cov T x := fun x => by simp [cov]
    have a1 : p.1 = q.1 := by
      have h1 := (cT p.1).mp ((h p.1).mp ((cS p.1).mpr (.inl ⟨Nat.le_refl _, lp⟩)))
      have h2 := (cS q.1).mp ((h q.1).mpr ((cT q.1).mpr (.inl ⟨Nat.le_refl _, lq⟩)))
      have g1 : q.1 ≤ p.1 := by
        rcases h1 with e | e
        · omega
        · have := ht.ge e; omega
      have g2 : p.1 ≤ q.1 := by
        rcases h2 with e | e
        · omega
        · have := hs.ge e; omega
      omega
    have le1 : p.2 ≤ q.2 := by
      refine Nat.le_of_not_lt fun e => ?_
      have h1 := (cT q.2).mp ((h q.2).mp ((cS q.2).mpr (.inl ⟨by omega, e⟩)))
      rcases h1 with z | z
      · omega
      · have := ht.ge z; omega
    have le2 : q.2 ≤ p.2 := by
      refine Nat.le_of_not_lt fun e => ?_
      have h1 := (cS p.2).mp ((h p.2).mpr ((cT p.2).mpr (.inl ⟨by omega, e⟩)))
      rcases h1 with z | z
      · omega
      · have := hs.ge z; omega
    have e : p = q := Prod.ext a1 (by omega)
    subst e
    rw [str_uniq hs.tail ht.tail fun x => ?_]
    constructor
    · intro hx
      have h1 := hs.ge hx
      rcases (cT x).mp ((h x).mp ((cS x).mpr (.inr hx))) with z | z
      · omega
      · exact z
    · intro hx
      have h1 := ht.ge hx
      rcases (cS x).mp ((h x).mpr ((cT x).mpr (.inr hx))) with z | z
      · omega
      · exact z
/-- the clear stretches, flaw by flaw -/
def clrF (st : List NP × Nat) (p : NP) : List NP × Nat := (if st.2 < p.1 then st.1 ++ [(st.2, p.1)] else st.1, max st.2 p.2)
def clearL (n : Nat) (fs : List NP) : List NP := if (fs.foldl clrF ([], 0)).2 < n then (fs.foldl clrF ([], 0)).1 ++ [((fs.foldl clrF ([], 0)).2, n)] else (fs.foldl clrF ([], 0)).1
theorem strOk_snoc {S : List NP} {p : NP} (h : StrOk S) (hp : p.1 < p.2) (ha : ∀ q ∈ S, q.2 < p.1) : StrOk (S ++ [p]) := by
  refine ⟨List.pairwise_append.mpr ⟨h.1, by simp, fun a ha' b hb => by simp at hb; subst hb; exact ha a ha'⟩, fun q hq => ?_⟩
  rcases List.mem_append.mp hq with e | e
  · exact h.2 q e
  · simp at e; subst e; exact hp
theorem cov_snoc {S : List NP} {p : NP} {x : Nat} : cov (S ++ [p]) x ↔ cov S x ∨ (p.1 ≤ x ∧ x < p.2) := by
  unfold cov
  constructor
  · rintro ⟨q, hq, h⟩
    rcases List.mem_append.mp hq with e | e
    · exact .inl ⟨q, e, h⟩
    · simp at e; subst e; exact .inr h
  · rintro (⟨q, hq, h⟩ | h)
    · exact ⟨q, by simp [hq], h⟩
    · exact ⟨p, by simp, h⟩
/-- the state behind some flaws: m the last one's begin -/
structure ClrI (S : List NP) (t m : Nat) (ps : List NP) : Prop where
  ok : StrOk S
  lt : ∀ p ∈ S, p.2 < t
  le : ∀ p ∈ S, p.2 ≤ m
  ends : ∀ p ∈ ps, p.2 ≤ t
  at_ : ∀ x, x < t → (cov S x ↔ ¬ cov ps x)
theorem clr_step {S : List NP} {t m : Nat} {ps : List NP} {q : NP} (h : ClrI S t m ps) (hm : m ≤ q.1) (hq : q.1 < q.2) : ClrI (clrF (S, t) q).1 (clrF (S, t) q).2 q.1 (ps ++ [q]) := by
  have noS : ∀ x, t ≤ x → ¬ cov S x := fun x hx ⟨p, hp, h1, h2⟩ => by have := h.lt p hp; omega
  have noP : ∀ x, t ≤ x → ¬ cov ps x := fun x hx ⟨p, hp, h1, h2⟩ => by have := h.ends p hp; omega
  unfold clrF
  dsimp only
  by_cases c : t < q.1
  · rw [if_pos c]
    have e : max t q.2 = q.2 := by omega
    rw [e]
    refine ⟨strOk_snoc h.ok c h.lt, fun p hp => ?_, fun p hp => ?_, fun p hp => ?_, fun x hx => ?_⟩
    · rcases List.mem_append.mp hp with z | z
      · have := h.lt p z; omega
      · simp at z; subst z; exact hq
    · rcases List.mem_append.mp hp with z | z
      · have := h.le p z; omega
      · simp at z; subst z; exact Nat.le_refl _
    · rcases List.mem_append.mp hp with z | z
      · have := h.ends p z; omega
      · simp at z; subst z; exact Nat.le_refl _
    · rw [cov_snoc, cov_snoc]
      by_cases hx2 : x < t
      · rw [h.at_ x hx2]
        constructor
        · rintro (a | a)
          · rintro (b | b)
            · exact a b
            · omega
          · omega
        · exact fun a => .inl fun b => a (.inl b)
      · have n1 := noS x (by omega)
        have n2 := noP x (by omega)
        constructor
        · rintro (a | a)
          · exact absurd a n1
          · rintro (b | b)
            · exact n2 b
            · dsimp only at a; omega
        · intro a
          right
          dsimp only
          refine ⟨by omega, ?_⟩
          refine Nat.lt_of_not_le fun z => a (.inr ⟨z, hx⟩)
  · rw [if_neg c]
    refine ⟨h.ok, fun p hp => by have := h.lt p hp; omega, fun p hp => by have := h.le p hp; omega, fun p hp => ?_, fun x hx => ?_⟩
    · rcases List.mem_append.mp hp with z | z
      · have := h.ends p z; omega
      · simp at z; subst z; omega
    · rw [cov_snoc]
      by_cases hx2 : x < t
      · rw [h.at_ x hx2]
        constructor
        · rintro a (b | b)
          · exact a b
          · obtain ⟨p, hp, h1, h2⟩ := (h.at_ x hx2).mpr a
            have := h.le p hp
            omega
        · exact fun a b => a (.inl b)
      · have n1 := noS x (by omega)
        constructor
        · exact fun a => absurd a n1
        · intro a
          exact absurd (.inr ⟨by omega, by omega⟩) a
theorem clr_fold : ∀ (fs : List NP) (S : List NP) (t m : Nat) (ps : List NP), ClrI S t m ps → (∀ q ∈ fs, m ≤ q.1 ∧ q.1 < q.2) → fs.Pairwise (fun a b => a.1 ≤ b.1) →
    ∃ m', ClrI (fs.foldl clrF (S, t)).1 (fs.foldl clrF (S, t)).2 m' (ps ++ fs)
  | [], S, t, m, ps, h, _, _ => ⟨m, by simpa using h⟩
  | q :: fs, S, t, m, ps, h, hq, hp => by
    have hq0 := hq q (by simp)
    have h1 := clr_step h hq0.1 hq0.2
    have hp' := List.pairwise_cons.mp hp
    obtain ⟨m', h2⟩ := clr_fold fs (clrF (S, t) q).1 (clrF (S, t) q).2 q.1 (ps ++ [q]) h1 (fun x hx => ⟨hp'.1 x hx, (hq x (by simp [hx])).2⟩) hp'.2
    exact ⟨m', by simpa using h2⟩
/-- flaws of a reel -/
def FlOk (n : Nat) (fs : List NP) : Prop := fs.Pairwise (fun a b => a.1 ≤ b.1) ∧ ∀ p ∈ fs, p.1 < p.2 ∧ p.2 ≤ n
theorem clear_spec {n : Nat} {fs : List NP} (h : FlOk n fs) : StrOk (clearL n fs) ∧ ∀ x, cov (clearL n fs) x ↔ x < n ∧ ¬ cov fs x := by
  obtain ⟨m, hi⟩ := clr_fold fs [] 0 0 [] ⟨⟨by simp, by simp⟩, by simp, by simp, by simp, fun x hx => absurd hx (Nat.not_lt_zero x)⟩ (fun q hq => ⟨Nat.zero_le _, (h.2 q hq).1⟩) h.1
  rw [List.nil_append] at hi
  have hn : (fs.foldl clrF ([], 0)).2 ≤ n := by
    have : ∀ (fs : List NP) (st : List NP × Nat), st.2 ≤ n → (∀ p ∈ fs, p.2 ≤ n) → (fs.foldl clrF st).2 ≤ n := by
      intro fs
      induction fs with
      | nil => exact fun st h _ => h
      | cons p fs ih =>
        intro st h1 h2
        refine ih _ ?_ fun q hq => h2 q (by simp [hq])
        have := h2 p (by simp)
        show max st.2 p.2 ≤ n
        omega
    exact this fs _ (Nat.zero_le _) fun p hp => (h.2 p hp).2
  unfold clearL
  generalize fs.foldl clrF ([], 0) = st at *
  have noP : ∀ x, st.2 ≤ x → ¬ cov fs x := fun x hx ⟨p, hp, h1, h2⟩ => by have := hi.ends p hp; omega
  have noS : ∀ x, st.2 ≤ x → ¬ cov st.1 x := fun x hx ⟨p, hp, h1, h2⟩ => by have := hi.lt p hp; omega
  by_cases c : st.2 < n
  · rw [if_pos c]
    refine ⟨strOk_snoc hi.ok c hi.lt, fun x => ?_⟩
    rw [cov_snoc]
    dsimp only
    by_cases hx : x < st.2
    · rw [hi.at_ x hx]
      constructor
      · rintro (a | a)
        · exact ⟨by omega, a⟩
        · omega
      · exact fun a => .inl a.2
    · have n1 := noP x (by omega)
      have n2 := noS x (by omega)
      constructor
      · rintro (a | a)
        · exact absurd a n2
        · exact ⟨a.2, n1⟩
      · exact fun a => .inr ⟨by omega, a.1⟩
  · rw [if_neg c]
    refine ⟨hi.ok, fun x => ?_⟩
    by_cases hx : x < st.2
    · rw [hi.at_ x hx]
      exact ⟨fun a => ⟨by omega, a⟩, fun a => a.2⟩
    · have n2 := noS x (by omega)
      exact ⟨fun a => absurd a n2, fun a => by omega⟩
/-- the clear stretches, unit by unit -/
def runF (g : Nat → Bool) (S : List NP) (x : Nat) : List NP := if g x = true ∧ 0 < x ∧ g (x - 1) = true then S.dropLast ++ [((S.getLastD (0, 0)).1, x + 1)] else if g x = true then S ++ [(x, x + 1)] else S
def runsL (n : Nat) (g : Nat → Bool) : List NP := (List.range n).foldl (runF g) []
structure RunI (g : Nat → Bool) (S : List NP) (n : Nat) : Prop where
  ok : StrOk S
  le : ∀ p ∈ S, p.2 ≤ n
  last : 0 < n → g (n - 1) = true → ∃ T a, S = T ++ [(a, n)]
  nolast : (n = 0 ∨ g (n - 1) = false) → ∀ p ∈ S, p.2 < n
  at_ : ∀ x, cov S x ↔ x < n ∧ g x = true
theorem run_step {g : Nat → Bool} {S : List NP} {n : Nat} (h : RunI g S n) : RunI g (runF g S n) (n + 1) := by
  unfold runF
  by_cases c1 : g n = true ∧ 0 < n ∧ g (n - 1) = true
  · rw [if_pos c1]
    obtain ⟨T, a, rfl⟩ := h.last c1.2.1 c1.2.2
    have hd : (T ++ [(a, n)]).dropLast = T := by simp
    have hl : ((T ++ [(a, n)]).getLastD (0, 0)).1 = a := by simp
    rw [hd, hl]
    have hp := List.pairwise_append.mp h.ok.1
    have ha := h.ok.2 (a, n) (by simp)
    dsimp only at ha
    have hT : StrOk T := ⟨hp.1, fun p q => h.ok.2 p (by simp [q])⟩
    refine ⟨strOk_snoc hT (by dsimp only; omega) (fun q hq => hp.2.2 q hq (a, n) (by simp)), fun p hp => ?_, fun _ _ => ⟨T, a, rfl⟩, fun z => ?_, fun x => ?_⟩
    · rcases List.mem_append.mp hp with z | z
      · have := h.le p (by simp [z]); omega
      · simp at z; subst z; exact Nat.le_refl _
    · rcases z with z | z
      · omega
      · rw [Nat.add_sub_cancel, c1.1] at z; cases z
    · have := h.at_ x
      rw [cov_snoc] at this ⊢
      dsimp only at this ⊢
      by_cases hx : x = n
      · subst hx
        exact ⟨fun _ => ⟨by omega, c1.1⟩, fun _ => .inr ⟨by omega, by omega⟩⟩
      · constructor
        · rintro (z | z)
          · have := this.mp (.inl z)
            exact ⟨by omega, this.2⟩
          · have := this.mp (.inr ⟨z.1, by omega⟩)
            exact ⟨by omega, this.2⟩
        · rintro ⟨z1, z2⟩
          rcases this.mpr ⟨by omega, z2⟩ with w | w
          · exact .inl w
          · exact .inr ⟨w.1, by omega⟩
  · rw [if_neg c1]
    by_cases c2 : g n = true
    · rw [if_pos c2]
      have hno : n = 0 ∨ g (n - 1) = false := by
        by_cases z : n = 0
        · exact .inl z
        · right
          cases w : g (n - 1) with
          | false => rfl
          | true => exact absurd ⟨c2, by omega, w⟩ c1
      refine ⟨strOk_snoc h.ok (by dsimp only; omega) (h.nolast hno), fun p hp => ?_, fun _ _ => ⟨S, n, rfl⟩, fun z => ?_, fun x => ?_⟩
      · rcases List.mem_append.mp hp with z | z
        · have := h.le p z; omega
        · simp at z; subst z; exact Nat.le_refl _
      · rcases z with z | z
        · omega
        · rw [Nat.add_sub_cancel, c2] at z; cases z
      · rw [cov_snoc, h.at_ x]
        dsimp only
        constructor
        · rintro (z | z)
          · exact ⟨by omega, z.2⟩
          · have : x = n := by omega
            subst this
            exact ⟨by omega, c2⟩
        · rintro ⟨z1, z2⟩
          by_cases hx : x = n
          · exact .inr (by omega)
          · exact .inl ⟨by omega, z2⟩
    · rw [if_neg c2]
      refine ⟨h.ok, fun p hp => by have := h.le p hp; omega, fun _ z => absurd (by simpa using z) c2, fun _ p hp => by have := h.le p hp; omega, fun x => ?_⟩
      rw [h.at_ x]
      constructor
      · exact fun z => ⟨by omega, z.2⟩
      · rintro ⟨z1, z2⟩
        by_cases hx : x = n
        · subst hx; exact absurd z2 c2
        · exact ⟨by omega, z2⟩
theorem runs_spec (g : Nat → Bool) : ∀ n, RunI g (runsL n g) n
  | 0 => ⟨⟨by simp [runsL], by simp [runsL]⟩, by simp [runsL], fun h => absurd h (by decide), by simp [runsL], fun x => by simp [runsL, cov]⟩
  | n + 1 => by
    unfold runsL
    rw [List.range_succ, List.foldl_append]
    exact run_step (runs_spec g n)
theorem clear_runs {n : Nat} {fs : List NP} (h : FlOk n fs) : clearL n fs = runsL n fun x => !badB fs x := by
  obtain ⟨h1, h2⟩ := clear_spec h
  have hr := runs_spec (fun x => !badB fs x) n
  refine str_uniq h1 hr.ok fun x => ?_
  rw [h2, hr.at_ x, ← badB_iff]
  simp
/-- a place for a roll -/
theorem fits_spec {n : Nat} {fs : List NP} (h : FlOk n fs) {b r : Nat} (hr : 0 < r) : ((clearL n fs).any fun p => decide (p.1 ≤ b) && decide (b + r ≤ p.2)) = true ↔ b + r ≤ n ∧ ∀ x, b ≤ x → x < b + r → badB fs x = false := by
  obtain ⟨h1, h2⟩ := clear_spec h
  rw [List.any_eq_true]
  constructor
  · rintro ⟨p, hp, hq⟩
    simp at hq
    have g : ∀ x, b ≤ x → x < b + r → x < n ∧ ¬ cov fs x := fun x a c => (h2 x).mp ⟨p, hp, by omega, by omega⟩
    refine ⟨?_, fun x a c => ?_⟩
    · have := (g (b + r - 1) (by omega) (by omega)).1
      omega
    · have := (g x a c).2
      rw [← badB_iff] at this
      simpa using this
  · rintro ⟨hn, hg⟩
    have g : ∀ x, b ≤ x → x < b + r → cov (clearL n fs) x := fun x a c => (h2 x).mpr ⟨by omega, by rw [← badB_iff, hg x a c]; exact Bool.false_ne_true⟩
    obtain ⟨p, hp, p1, p2⟩ := g b (Nat.le_refl _) (by omega)
    refine ⟨p, hp, ?_⟩
    simp
    refine ⟨p1, Nat.le_of_not_lt fun z => ?_⟩
    obtain ⟨q, hq, q1, q2⟩ := g p.2 (by omega) z
    have hpw := h1.1
    have hne : p ≠ q := fun e => by subst e; omega
    have key : p.2 < q.1 ∨ q.2 < p.1 := by
      rcases List.getElem_of_mem hp with ⟨i, hi, ei⟩
      rcases List.getElem_of_mem hq with ⟨j, hj, ej⟩
      rcases Nat.lt_trichotomy i j with w | w | w
      · left
        have := List.pairwise_iff_getElem.mp hpw i j hi hj w
        rw [ei, ej] at this
        exact this
      · subst w
        exact absurd (ei.symm.trans ej) hne
      · right
        have := List.pairwise_iff_getElem.mp hpw j i hj hi w
        rw [ei, ej] at this
        exact this
    omega
end G

set_option Elab.async false
set_option linter.all false
set_option maxRecDepth 100000
set_option maxHeartbeats 1000000
namespace G
open PySem L2 Fx
/-! ### what cuts can be worth, from each place on -/
abbrev En := Nat × Option Nat
def eD : En := (0, none)
section
variable (fit : Nat → Nat → Bool) (ws : List NP) (n : Nat)
/-- one want more, at a place: T the values by place -/
def bestF (T : Nat → Nat) (p : Nat) (b : En) (w : NP) : En := if (fit p w.1 && decide (b.1 < w.2 + T (p + w.1))) = true then (w.2 + T (p + w.1), some w.1) else b
def bestE (T : Nat → Nat) (p : Nat) : En := ws.foldl (bestF fit T p) (T (p + 1), none)
/-- the table from the end: place n - i stands at i -/
def tabAt (R : List En) (x : Nat) : Nat := (R.getD (n - x) eD).1
def tabR : Nat → List En
  | 0 => [(0, none)]
  | m + 1 => tabR m ++ [bestE fit ws (tabAt n (tabR m)) (n - (m + 1))]
def valT (x : Nat) : Nat := tabAt n (tabR fit ws n n) x
def choT (x : Nat) : Option Nat := ((tabR fit ws n n).getD (n - x) eD).2
theorem tabR_len : ∀ m, (tabR fit ws n m).length = m + 1
  | 0 => rfl
  | m + 1 => by unfold tabR; rw [List.length_append, tabR_len m]; rfl
theorem tabR_pre : ∀ (k m : Nat), m ≤ k → ∀ i, i ≤ m → (tabR fit ws n k).getD i eD = (tabR fit ws n m).getD i eD
  | 0, m, h, i, hi => by
    have : m = 0 := by omega
    subst this
    rfl
  | k + 1, m, h, i, hi => by
    by_cases e : m = k + 1
    · subst e; rfl
    · rw [← tabR_pre k m (by omega) i hi]
      have hl := tabR_len fit ws n k
      show (tabR fit ws n k ++ _).getD i eD = _
      simp only [List.getD_eq_getElem?_getD]
      rw [List.getElem?_append_left (by omega)]
theorem valT_n : valT fit ws n n = 0 := by
  unfold valT tabAt
  rw [Nat.sub_self, tabR_pre fit ws n n 0 (Nat.zero_le _) 0 (Nat.le_refl _)]
  rfl
end
theorem bestE_congr {fit : Nat → Nat → Bool} {ws : List NP} {T T' : Nat → Nat} {p n : Nat} (hp : p < n) (hf : ∀ w ∈ ws, fit p w.1 = true → p + w.1 ≤ n) (h0 : ∀ w ∈ ws, 0 < w.1) (h : ∀ x, p < x → x ≤ n → T x = T' x) : bestE fit ws T p = bestE fit ws T' p := by
  unfold bestE
  rw [h (p + 1) (by omega) (by omega)]
  generalize (T' (p + 1), (none : Option Nat)) = b
  induction ws generalizing b with
  | nil => rfl
  | cons w ws ih =>
    rw [List.foldl_cons, List.foldl_cons, ih (fun x hx => hf x (by simp [hx])) (fun x hx => h0 x (by simp [hx]))]
    congr 1
    unfold bestF
    cases hc : fit p w.1 with
    | false => simp
    | true =>
      have := hf w (by simp) hc
      have := h0 w (by simp)
      rw [h (p + w.1) (by omega) (by omega)]
/-- wants that a place can bear -/
structure FitOk (fit : Nat → Nat → Bool) (ws : List NP) (n : Nat) : Prop where
  le : ∀ p w, w ∈ ws → fit p w.1 = true → p + w.1 ≤ n
  pos : ∀ w ∈ ws, 0 < w.1
section
variable {fit : Nat → Nat → Bool} {ws : List NP} {n : Nat}
theorem tab_row (h : FitOk fit ws n) {p : Nat} (hp : p < n) : (tabR fit ws n n).getD (n - p) eD = bestE fit ws (valT fit ws n) p := by
  obtain ⟨m, rfl, hm⟩ : ∃ m, p = n - (m + 1) ∧ m + 1 ≤ n := ⟨n - p - 1, by omega, by omega⟩
  have e1 : n - (n - (m + 1)) = m + 1 := by omega
  rw [e1, tabR_pre fit ws n n (m + 1) hm (m + 1) (Nat.le_refl _)]
  have hl := tabR_len fit ws n m
  have e2 : (tabR fit ws n (m + 1)).getD (m + 1) eD = bestE fit ws (tabAt n (tabR fit ws n m)) (n - (m + 1)) := by
    show (tabR fit ws n m ++ [_]).getD (m + 1) eD = _
    simp only [List.getD_eq_getElem?_getD]
    rw [List.getElem?_append_right (by omega), hl, Nat.sub_self]
    rfl
  rw [e2]
  refine bestE_congr (n := n) hp (fun w hw => h.le _ w hw) h.pos fun x h1 h2 => ?_
  unfold valT tabAt
  rw [tabR_pre fit ws n n m (by omega) (n - x) (by omega)]
/-- best of all wants -/
theorem bestE_spec {T : Nat → Nat} {p : Nat} : ∀ (vs : List NP) (b : En), let r := vs.foldl (bestF fit T p) b
    b.1 ≤ r.1 ∧ (∀ w ∈ vs, fit p w.1 = true → w.2 + T (p + w.1) ≤ r.1) ∧ (r = b ∨ ∃ w ∈ vs, fit p w.1 = true ∧ r = (w.2 + T (p + w.1), some w.1))
  | [], b => ⟨Nat.le_refl _, by simp, .inl rfl⟩
  | w :: vs, b => by
    obtain ⟨h1, h2, h3⟩ := bestE_spec (T := T) (p := p) vs (bestF fit T p b w)
    dsimp only at h1 h2 h3 ⊢
    rw [List.foldl_cons]
    have hb : b.1 ≤ (bestF fit T p b w).1 ∧ (fit p w.1 = true → w.2 + T (p + w.1) ≤ (bestF fit T p b w).1) ∧ (bestF fit T p b w = b ∨ (fit p w.1 = true ∧ bestF fit T p b w = (w.2 + T (p + w.1), some w.1))) := by
      unfold bestF
      cases hc : fit p w.1 with
      | false => simp
      | true =>
        by_cases hl : b.1 < w.2 + T (p + w.1)
        · simp [hl]; omega
        · simp [hl]; omega
    refine ⟨by omega, fun x hx hf => ?_, ?_⟩
    · rcases List.mem_cons.mp hx with e | e
      · subst e
        have := hb.2.1 hf
        omega
      · exact h2 x e hf
    · rcases h3 with e | ⟨x, hx, hf, e⟩
      · rcases hb.2.2 with e2 | ⟨hf, e2⟩
        · exact .inl (e.trans e2)
        · exact .inr ⟨w, by simp, hf, e.trans e2⟩
      · exact .inr ⟨x, by simp [hx], hf, e⟩
theorem val_row (h : FitOk fit ws n) {p : Nat} (hp : p < n) : (valT fit ws n p, choT fit ws n p) = bestE fit ws (valT fit ws n) p := by
  have := tab_row h hp
  unfold valT choT tabAt
  exact this
theorem val_step (h : FitOk fit ws n) {p : Nat} (hp : p < n) : valT fit ws n (p + 1) ≤ valT fit ws n p := by
  have e := val_row h hp
  have := (bestE_spec (fit := fit) (T := valT fit ws n) (p := p) ws (valT fit ws n (p + 1), none)).1
  dsimp only at this
  have e1 : valT fit ws n p = (bestE fit ws (valT fit ws n) p).1 := by rw [← e]
  rw [e1]
  exact this
theorem val_fit (h : FitOk fit ws n) {p : Nat} (hp : p < n) {w : NP} (hw : w ∈ ws) (hf : fit p w.1 = true) : w.2 + valT fit ws n (p + w.1) ≤ valT fit ws n p := by
  have e := val_row h hp
  have := (bestE_spec (fit := fit) (T := valT fit ws n) (p := p) ws (valT fit ws n (p + 1), none)).2.1 w hw hf
  have e1 : valT fit ws n p = (bestE fit ws (valT fit ws n) p).1 := by rw [← e]
  rw [e1]
  exact this
theorem val_cho (h : FitOk fit ws n) {p : Nat} (hp : p < n) : (choT fit ws n p = none ∧ valT fit ws n p = valT fit ws n (p + 1)) ∨ ∃ w ∈ ws, fit p w.1 = true ∧ choT fit ws n p = some w.1 ∧ valT fit ws n p = w.2 + valT fit ws n (p + w.1) := by
  have e := val_row h hp
  rcases (bestE_spec (fit := fit) (T := valT fit ws n) (p := p) ws (valT fit ws n (p + 1), none)).2.2 with q | ⟨w, hw, hf, q⟩
  · left
    have := e.trans q
    exact ⟨(Prod.mk.inj this).2, (Prod.mk.inj this).1⟩
  · right
    have := e.trans q
    exact ⟨w, hw, hf, (Prod.mk.inj this).2, (Prod.mk.inj this).1⟩
theorem val_mono (h : FitOk fit ws n) : ∀ (k p : Nat), p + k ≤ n → valT fit ws n (p + k) ≤ valT fit ws n p
  | 0, p, _ => Nat.le_refl _
  | k + 1, p, hk => Nat.le_trans (val_step h (p := p + k) (by omega)) (val_mono h k p (by omega))
/-- how great -/
theorem val_le (h : FitOk fit ws n) {B : Nat} (hB : ∀ w ∈ ws, w.2 ≤ B) : ∀ (m : Nat), m ≤ n → valT fit ws n (n - m) ≤ B * m
  | 0, _ => by rw [Nat.sub_zero, valT_n]; omega
  | m + 1, hm => by
    have ih := val_le h hB m (by omega)
    have e1 : n - (m + 1) + 1 = n - m := by omega
    rcases val_cho h (p := n - (m + 1)) (by omega) with ⟨_, q⟩ | ⟨w, hw, hf, _, q⟩
    · rw [q, e1, Nat.mul_succ]; omega
    · have h1 := h.pos w hw
      have h2 := h.le _ w hw hf
      have h3 := hB w hw
      have h4 := val_mono h (w.1 - 1) (n - m) (by omega)
      have e2 : n - (m + 1) + w.1 = n - m + (w.1 - 1) := by omega
      rw [q, e2, Nat.mul_succ]
      omega
end
end G

set_option Elab.async false
set_option linter.all false
set_option maxRecDepth 100000
set_option maxHeartbeats 1000000
namespace G
open PySem L2 Fx
def fitB (n : Nat) (fs : List NP) (p r : Nat) : Bool := decide (p + r ≤ n) && (List.range' p r).all fun x => !badB fs x
theorem fitB_ok {n : Nat} {fs : List NP} {ws : List NP} (h : ∀ w ∈ ws, 0 < w.1) : FitOk (fitB n fs) ws n := ⟨fun p w _ hf => by
  unfold fitB at hf
  rw [Bool.and_eq_true, decide_eq_true_eq] at hf
  exact hf.1, h⟩

def goodP (n : Nat) (fs : List NP) : PV := .lst ((List.range n).map fun x => .bl (!badB fs x))
theorem good_len {n : Nat} {fs : List NP} {L : Store} : hLen L (.v (goodP n fs)) = some (.int n) := by
  show some (PV.int ((List.range n).map fun x => PV.bl (!badB fs x)).length) = _
  simp
theorem hNe_nil {xs : List PV} (h : dOks 63 xs = true) : hNe (.lst xs) (.lst []) = some (.bl (!xs.isEmpty)) := by
  unfold hNe
  have e : dOk 64 (.lst xs) = true ∧ dOk 64 (.lst []) = true := ⟨h, rfl⟩
  rw [if_pos e]
  cases xs <;> rfl
end G

set_option Elab.async false
set_option linter.all false
set_option maxRecDepth 100000
set_option maxHeartbeats 1000000
namespace G
open PySem L2 Fx
section
variable {fit : Nat → Nat → Bool} {ws : List NP} {n : Nat}
theorem val_upper (h : FitOk fit ws n) {f : Nat → Nat} (hs : ∀ p, p < n → f (p + 1) ≤ f p) (hf : ∀ p, p < n → ∀ w ∈ ws, fit p w.1 = true → w.2 + f (p + w.1) ≤ f p) : ∀ (m x : Nat), x ≤ n → n - x ≤ m → valT fit ws n x ≤ f x
  | 0, x, hx, hm => by
    obtain rfl : x = n := by omega
    rw [valT_n]
    exact Nat.zero_le _
  | m + 1, x, hx, hm => by
    by_cases e : x = n
    · subst e
      rw [valT_n]
      exact Nat.zero_le _
    · rcases val_cho h (p := x) (by omega) with ⟨_, q⟩ | ⟨w, hw, hfit, _, q⟩
      · have := val_upper h hs hf m (x + 1) (by omega) (by omega)
        have := hs x (by omega)
        omega
      · have h1 := h.le _ _ hw hfit
        have h2 := h.pos w hw
        have := val_upper h hs hf m (x + w.1) h1 (by omega)
        have := hf x (by omega) w hw hfit
        omega
theorem val_lower (h : FitOk fit ws n) {g : Nat → Nat} (h0 : g n = 0) (hg : ∀ p, p < n → g p ≤ g (p + 1) ∨ ∃ w ∈ ws, fit p w.1 = true ∧ g p ≤ w.2 + g (p + w.1)) : ∀ (m x : Nat), x ≤ n → n - x ≤ m → g x ≤ valT fit ws n x
  | 0, x, hx, hm => by
    obtain rfl : x = n := by omega
    omega
  | m + 1, x, hx, hm => by
    by_cases e : x = n
    · subst e
      omega
    · rcases hg x (by omega) with q | ⟨w, hw, hfit, q⟩
      · have := val_lower h h0 hg m (x + 1) (by omega) (by omega)
        have := val_step h (p := x) (by omega)
        omega
      · have h1 := h.le _ _ hw hfit
        have h2 := h.pos w hw
        have := val_lower h h0 hg m (x + w.1) h1 (by omega)
        have := val_fit h (p := x) (by omega) hw hfit
        omega
end
theorem fitB_iff {n : Nat} {fs : List NP} {p r : Nat} : fitB n fs p r = true ↔ p + r ≤ n ∧ ∀ x, p ≤ x → x < p + r → badB fs x = false := by
  unfold fitB
  rw [Bool.and_eq_true, decide_eq_true_eq, List.all_eq_true]
  constructor
  · rintro ⟨h1, h2⟩
    refine ⟨h1, fun x a b => ?_⟩
    have := h2 x (List.mem_range'_1.mpr ⟨a, b⟩)
    simpa using this
  · rintro ⟨h1, h2⟩
    refine ⟨h1, fun x hx => ?_⟩
    obtain ⟨a, b⟩ := List.mem_range'_1.mp hx
    simp [h2 x a b]
section
variable {ws : List NP} (hw : ∀ w ∈ ws, 0 < w.1)
include hw
/-- a flaw more -/
theorem val_more {n : Nat} {fs fs' : List NP} (h : ∀ x, badB fs x = true → badB fs' x = true) : valT (fitB n fs') ws n 0 ≤ valT (fitB n fs) ws n 0 := by
  have ho := fitB_ok (n := n) (fs := fs) hw
  refine val_upper (fitB_ok hw) (fun p hp => val_step ho hp) (fun p hp w hm hf => val_fit ho hp hm ?_) n 0 (Nat.zero_le _) (Nat.le_refl _)
  obtain ⟨h1, h2⟩ := fitB_iff.mp hf
  refine fitB_iff.mpr ⟨h1, fun x a b => ?_⟩
  have := h2 x a b
  cases hb : badB fs x with
  | false => rfl
  | true => rw [h x hb] at this; cases this
/-- fewer wants -/
theorem val_fewer {n : Nat} {fs : List NP} {vs : List NP} (h : ∀ w ∈ vs, w ∈ ws) : valT (fitB n fs) vs n 0 ≤ valT (fitB n fs) ws n 0 := by
  have ho := fitB_ok (n := n) (fs := fs) hw
  exact val_upper (fitB_ok fun w hm => hw w (h w hm)) (fun p hp => val_step ho hp) (fun p hp w hm hf => val_fit ho hp (h w hm) hf) n 0 (Nat.zero_le _) (Nat.le_refl _)
/-- worths so many times as great -/
theorem val_scale {n : Nat} {fs : List NP} (m : Nat) : valT (fitB n fs) (ws.map fun w => (w.1, w.2 * m)) n 0 = m * valT (fitB n fs) ws n 0 := by
  have ho := fitB_ok (n := n) (fs := fs) hw
  have hw' : ∀ w ∈ ws.map (fun w => (w.1, w.2 * m)), 0 < w.1 := fun w hm => by
    obtain ⟨v, hv, rfl⟩ := List.mem_map.mp hm
    exact hw v hv
  have ho' := fitB_ok (n := n) (fs := fs) hw'
  refine Nat.le_antisymm ?_ ?_
  · refine val_upper ho' (f := fun x => m * valT (fitB n fs) ws n x) (fun p hp => Nat.mul_le_mul_left _ (val_step ho hp)) (fun p hp w hm hf => ?_) n 0 (Nat.zero_le _) (Nat.le_refl _)
    obtain ⟨v, hv, rfl⟩ := List.mem_map.mp hm
    have := Nat.mul_le_mul_left m (val_fit ho hp hv hf)
    rw [Nat.mul_add, Nat.mul_comm m v.2] at this
    exact this
  · refine val_lower ho' (g := fun x => m * valT (fitB n fs) ws n x) (by rw [valT_n, Nat.mul_zero]) (fun p hp => ?_) n 0 (Nat.zero_le _) (Nat.le_refl _)
    rcases val_cho ho hp with ⟨_, q⟩ | ⟨w, hm, hf, _, q⟩
    · exact .inl (by rw [q]; exact Nat.le_refl _)
    · refine .inr ⟨(w.1, w.2 * m), List.mem_map.mpr ⟨w, hm, rfl⟩, hf, ?_⟩
      dsimp only
      rw [q, Nat.mul_add, Nat.mul_comm m w.2]
      exact Nat.le_refl _
/-- turned about -/
theorem val_turn_le {n : Nat} {fs fs' : List NP} (h : ∀ x, x < n → badB fs' x = badB fs (n - 1 - x)) : valT (fitB n fs) ws n 0 ≤ valT (fitB n fs') ws n 0 := by
  have ho := fitB_ok (n := n) (fs := fs) hw
  have ho' := fitB_ok (n := n) (fs := fs') hw
  have key : ∀ (m x : Nat), x ≤ n → n - x ≤ m → valT (fitB n fs) ws n x + valT (fitB n fs') ws n (n - x) ≤ valT (fitB n fs') ws n 0 := by
    intro m
    induction m with
    | zero =>
      intro x hx hm
      obtain rfl : x = n := by omega
      rw [valT_n, Nat.sub_self]
      omega
    | succ m ih =>
      intro x hx hm
      by_cases e : x = n
      · subst e
        rw [valT_n, Nat.sub_self]
        omega
      · rcases val_cho ho (p := x) (by omega) with ⟨_, q⟩ | ⟨w, hm2, hf, _, q⟩
        · have h1 := ih (x + 1) (by omega) (by omega)
          have h2 := val_step ho' (p := n - (x + 1)) (by omega)
          have e2 : n - (x + 1) + 1 = n - x := by omega
          rw [e2] at h2
          omega
        · have h3 := ho.le _ _ hm2 hf
          have h4 := hw w hm2
          have h1 := ih (x + w.1) h3 (by omega)
          obtain ⟨f1, f2⟩ := fitB_iff.mp hf
          have h2 := val_fit ho' (p := n - (x + w.1)) (by omega) hm2 (fitB_iff.mpr ⟨by omega, fun y a b => by
            rw [h y (by omega)]
            exact f2 _ (by omega) (by omega)⟩)
          have e2 : n - (x + w.1) + w.1 = n - x := by omega
          rw [e2] at h2
          omega
  have := key n 0 (Nat.zero_le _) (Nat.le_refl _)
  rw [Nat.sub_zero, valT_n] at this
  omega
theorem val_turn {n : Nat} {fs fs' : List NP} (h : ∀ x, x < n → badB fs' x = badB fs (n - 1 - x)) : valT (fitB n fs') ws n 0 = valT (fitB n fs) ws n 0 :=
  Nat.le_antisymm (val_turn_le hw fun x hx => by
    rw [h _ (by omega)]
    congr 1
    omega) (val_turn_le hw h)
/-- two reels, so many units between them -/
def joinV (n1 n2 d : Nat) (A B : List NP) (ws : List NP) (x : Nat) : Nat := if x ≤ n1 then valT (fitB n1 A) ws n1 x + valT (fitB n2 B) ws n2 0 else if x ≤ n1 + d then valT (fitB n2 B) ws n2 0 else valT (fitB n2 B) ws n2 (x - n1 - d)
omit hw in
theorem join_far {n1 n2 d : Nat} {A B : List NP} {ws : List NP} {x : Nat} (h : n1 + d ≤ x) : joinV n1 n2 d A B ws x = valT (fitB n2 B) ws n2 (x - n1 - d) := by
  unfold joinV
  by_cases h1 : x ≤ n1
  · obtain rfl : x = n1 := by omega
    obtain rfl : d = 0 := by omega
    rw [if_pos h1, valT_n, Nat.sub_self, Nat.sub_zero]
    omega
  · rw [if_neg h1]
    by_cases h2 : x ≤ n1 + d
    · rw [if_pos h2]
      have : x - n1 - d = 0 := by omega
      rw [this]
    · rw [if_neg h2]
omit hw in
theorem join_mid {n1 n2 d : Nat} {A B : List NP} {ws : List NP} {x : Nat} (h : n1 ≤ x) (h2 : x ≤ n1 + d) : joinV n1 n2 d A B ws x = valT (fitB n2 B) ws n2 0 := by
  unfold joinV
  by_cases h1 : x ≤ n1
  · obtain rfl : x = n1 := by omega
    rw [if_pos h1, valT_n]
    omega
  · rw [if_neg h1, if_pos h2]
omit hw in
theorem join_near {n1 n2 d : Nat} {A B : List NP} {ws : List NP} {x : Nat} (h : x ≤ n1) : joinV n1 n2 d A B ws x = valT (fitB n1 A) ws n1 x + valT (fitB n2 B) ws n2 0 := if_pos h
theorem val_join {n1 n2 d : Nat} {A B C : List NP} (hA : ∀ x, x < n1 → badB C x = badB A x) (hB : ∀ x, x < n2 → badB C (n1 + d + x) = badB B x) :
    valT (fitB n1 A) ws n1 0 + valT (fitB n2 B) ws n2 0 ≤ valT (fitB (n1 + d + n2) C) ws (n1 + d + n2) 0 := by
  have oA := fitB_ok (n := n1) (fs := A) hw
  have oB := fitB_ok (n := n2) (fs := B) hw
  have oC := fitB_ok (n := n1 + d + n2) (fs := C) hw
  rw [← join_near (d := d) (Nat.zero_le n1)]
  refine val_lower oC ?_ (fun p hp => ?_) (n1 + d + n2) 0 (Nat.zero_le _) (Nat.le_refl _)
  · rw [join_far (by omega)]
    have : n1 + d + n2 - n1 - d = n2 := by omega
    rw [this, valT_n]
  · by_cases h1 : p < n1
    · rw [join_near (by omega)]
      rcases val_cho oA h1 with ⟨_, q⟩ | ⟨w, hm, hf, _, q⟩
      · left
        rw [join_near (by omega), q]
        exact Nat.le_refl _
      · have h3 := oA.le _ _ hm hf
        obtain ⟨f1, f2⟩ := fitB_iff.mp hf
        refine .inr ⟨w, hm, fitB_iff.mpr ⟨by omega, fun x a b => by rw [hA x (by omega)]; exact f2 x a b⟩, ?_⟩
        rw [join_near h3, q]
        omega
    · by_cases h2 : p < n1 + d
      · left
        rw [join_mid (by omega) (by omega), join_mid (by omega) (by omega)]
        exact Nat.le_refl _
      · rw [join_far (by omega)]
        rcases val_cho oB (p := p - n1 - d) (by omega) with ⟨_, q⟩ | ⟨w, hm, hf, _, q⟩
        · left
          rw [join_far (by omega), q]
          have : p + 1 - n1 - d = p - n1 - d + 1 := by omega
          rw [this]
          exact Nat.le_refl _
        · have h3 := oB.le _ _ hm hf
          obtain ⟨f1, f2⟩ := fitB_iff.mp hf
          refine .inr ⟨w, hm, fitB_iff.mpr ⟨by omega, fun x a b => ?_⟩, ?_⟩
          · have := hB (x - (n1 + d)) (by omega)
            have e : n1 + d + (x - (n1 + d)) = x := by omega
            rw [e] at this
            rw [this]
            exact f2 _ (by omega) (by omega)
          · rw [join_far (by omega), q]
            have : p + w.1 - n1 - d = p - n1 - d + w.1 := by omega
            rw [this]
            exact Nat.le_refl _
/-- parted at bad units -/
theorem val_part {n1 n2 d : Nat} {A B C : List NP} (hd : 0 < d) (hA : ∀ x, x < n1 → badB C x = badB A x) (hM : ∀ x, n1 ≤ x → x < n1 + d → badB C x = true) (hB : ∀ x, x < n2 → badB C (n1 + d + x) = badB B x) :
    valT (fitB (n1 + d + n2) C) ws (n1 + d + n2) 0 = valT (fitB n1 A) ws n1 0 + valT (fitB n2 B) ws n2 0 := by
  have oA := fitB_ok (n := n1) (fs := A) hw
  have oB := fitB_ok (n := n2) (fs := B) hw
  have oC := fitB_ok (n := n1 + d + n2) (fs := C) hw
  refine Nat.le_antisymm ?_ (val_join hw hA hB)
  rw [← join_near (d := d) (Nat.zero_le n1)]
  refine val_upper oC (fun p hp => ?_) (fun p hp w hm hf => ?_) (n1 + d + n2) 0 (Nat.zero_le _) (Nat.le_refl _)
  · by_cases h1 : p < n1
    · rw [join_near (by omega), join_near (by omega)]
      have := val_step oA h1
      omega
    · by_cases h2 : p < n1 + d
      · rw [join_mid (by omega) (by omega), join_mid (by omega) (by omega)]
        exact Nat.le_refl _
      · rw [join_far (by omega), join_far (by omega)]
        have := val_step oB (p := p - n1 - d) (by omega)
        have e : p + 1 - n1 - d = p - n1 - d + 1 := by omega
        rw [e]
        exact this
  · obtain ⟨f1, f2⟩ := fitB_iff.mp hf
    have hpos := hw w hm
    by_cases h1 : p < n1
    · have h3 : p + w.1 ≤ n1 := by
        by_cases q : p + w.1 ≤ n1
        · exact q
        · have := f2 n1 (by omega) (by omega)
          rw [hM n1 (Nat.le_refl _) (by omega)] at this
          cases this
      rw [join_near h3, join_near (by omega)]
      have := val_fit oA h1 hm (fitB_iff.mpr ⟨h3, fun x a b => by rw [← hA x (by omega)]; exact f2 x a b⟩)
      omega
    · by_cases h2 : p < n1 + d
      · have := f2 p (Nat.le_refl _) (by omega)
        rw [hM p (by omega) h2] at this
        cases this
      · rw [join_far (by omega), join_far (by omega)]
        have := val_fit oB (p := p - n1 - d) (by omega) hm (fitB_iff.mpr ⟨by omega, fun x a b => by
          have := hB x (by omega)
          rw [← this]
          exact f2 _ (by omega) (by omega)⟩)
        have e : p + w.1 - n1 - d = p - n1 - d + w.1 := by omega
        rw [e]
        exact this
end
end G

set_option Elab.async false
set_option linter.all false
set_option maxRecDepth 100000
set_option maxHeartbeats 4000000
namespace G
open PySem L2 Fx
abbrev KT : Bool := false
def top (i : Nat) : Stmt := PySem.Challenge.pw_pulpreel_k13_whole_reels_turned_parted_a.main.body.getD i (.Pass ⟨0, 0, 0, 0⟩)
abbrev s_clear : Stmt := top 1
abbrev s_fits : Stmt := top 2
abbrev s_worths : Stmt := top 3
abbrev s_best_cuts : Stmt := top 4
abbrev s_cut_paper : Stmt := top 5
abbrev s__law_draw : Stmt := top 7
abbrev s__law_flaws : Stmt := top 8
abbrev s__law_wants : Stmt := top 9
abbrev s__law_of : Stmt := top 10
abbrev s_law : Stmt := top 11
structure Tx (K : PySem.W.Frag) (mg : Str → Option Value) where
  z_any : mg "any" = none
  z_dict : mg "dict" = none
  z_len : mg "len" = none
  z_list : mg "list" = none
  z_max : mg "max" = none
  z_min : mg "min" = none
  z_range : mg "range" = none
  z_set : mg "set" = none
  z_sorted : mg "sorted" = none
  z_sum : mg "sum" = none
  z_tuple : mg "tuple" = none
  a_clear : Addr
  d_clear : FuncData
  F_clear : Fun K "clear" "clear" s_clear a_clear d_clear
  m_clear : mg "clear" = some (.ref a_clear)
  k_clear : PySem.W.keepIn K (.ref a_clear) = true
  b_clear : Binds K d_clear ["length", "flaws"] []
  a_fits : Addr
  d_fits : FuncData
  F_fits : Fun K "fits" "fits" s_fits a_fits d_fits
  m_fits : mg "fits" = some (.ref a_fits)
  k_fits : PySem.W.keepIn K (.ref a_fits) = true
  b_fits : Binds K d_fits ["stretches", "begin", "roll"] []
  a_worths : Addr
  d_worths : FuncData
  F_worths : Fun K "worths" "worths" s_worths a_worths d_worths
  m_worths : mg "worths" = some (.ref a_worths)
  k_worths : PySem.W.keepIn K (.ref a_worths) = true
  b_worths : Binds K d_worths ["length", "flaws", "wants"] []
  a_best_cuts : Addr
  d_best_cuts : FuncData
  F_best_cuts : Fun K "best_cuts" "best_cuts" s_best_cuts a_best_cuts d_best_cuts
  m_best_cuts : mg "best_cuts" = some (.ref a_best_cuts)
  k_best_cuts : PySem.W.keepIn K (.ref a_best_cuts) = true
  b_best_cuts : Binds K d_best_cuts ["length", "flaws", "wants"] []
  a_cut_paper : Addr
  d_cut_paper : FuncData
  F_cut_paper : Fun K "cut_paper" "cut_paper" s_cut_paper a_cut_paper d_cut_paper
  m_cut_paper : mg "cut_paper" = some (.ref a_cut_paper)
  k_cut_paper : PySem.W.keepIn K (.ref a_cut_paper) = true
  b_cut_paper : Binds K d_cut_paper ["length", "flaws", "wants"] []
  a__law_draw : Addr
  d__law_draw : FuncData
  F__law_draw : Fun K "_law_draw" "_law_draw" s__law_draw a__law_draw d__law_draw
  m__law_draw : mg "_law_draw" = some (.ref a__law_draw)
  k__law_draw : PySem.W.keepIn K (.ref a__law_draw) = true
  b__law_draw : Binds K d__law_draw ["tape", "many"] []
  a__law_flaws : Addr
  d__law_flaws : FuncData
  F__law_flaws : Fun K "_law_flaws" "_law_flaws" s__law_flaws a__law_flaws d__law_flaws
  m__law_flaws : mg "_law_flaws" = some (.ref a__law_flaws)
  k__law_flaws : PySem.W.keepIn K (.ref a__law_flaws) = true
  b__law_flaws : Binds K d__law_flaws ["tape", "length"] []
  a__law_wants : Addr
  d__law_wants : FuncData
  F__law_wants : Fun K "_law_wants" "_law_wants" s__law_wants a__law_wants d__law_wants
  m__law_wants : mg "_law_wants" = some (.ref a__law_wants)
  k__law_wants : PySem.W.keepIn K (.ref a__law_wants) = true
  b__law_wants : Binds K d__law_wants ["tape", "length"] []
  a__law_of : Addr
  d__law_of : FuncData
  F__law_of : Fun K "_law_of" "_law_of" s__law_of a__law_of d__law_of
  m__law_of : mg "_law_of" = some (.ref a__law_of)
  k__law_of : PySem.W.keepIn K (.ref a__law_of) = true
  b__law_of : Binds K d__law_of ["size", "some", "sorts"] []
  a_law : Addr
  d_law : FuncData
  F_law : Fun K "law" "law" s_law a_law d_law
  m_law : mg "law" = some (.ref a_law)
  k_law : PySem.W.keepIn K (.ref a_law) = true
  b_law : Binds K d_law ["script"] []
/-! ### clear -/
def b_clear : SF :=
  (sSeq (sOwn 2 (nLst aNil))
    (sSeq (sSet 3 (eC (.int 0)))
    (sSeq (sFor (iE (eVar 1)) (gTp (gCns (gNm 4) (gCns (gNm 5) gNls))) (sSeq (sIf (bB (eOp hGt (eVar 4) (eVar 3))) (sOwnM mAppend 2 (aCons (eTup (aCons (eVar 3) (aCons (eVar 4) aNil))) aNil)) sNx)
    (sSet 3 (eOp hMax2 (eVar 3) (eVar 5)))))
    (sSeq (sIf (bB (eOp hLt (eVar 3) (eVar 0))) (sOwnM mAppend 2 (aCons (eTup (aCons (eVar 3) (aCons (eVar 0) aNil))) aNil)) sNx)
    (sFrz 2 (sRet (eVar 2)))))))
def g_clear : DS := runDef0 6 b_clear
theorem safe_clear : Safe g_clear := safe_run0
theorem sc_clear : FnScope ["length", "flaws", "found", "since", "first", "last"] ["length", "flaws"] (defScope s_clear) := ⟨rfl, rfl, rfl, by decide +kernel, rfl, by decide +kernel, by decide +kernel⟩
theorem ok_clear {P : Program} {w : World} {K : PySem.W.Frag} {mg : Str → Option Value} {base : Heap} (T : Tx K mg) : FnOk P w K mg base CX0 1 T.a_clear T.d_clear ["length", "flaws"] (spG ⟨K, mg, false⟩ 2 g_clear) :=
  T.F_clear.ok (k := 0) sc_clear (spG_len (ps := ["length", "flaws"])) fun cdv A outer s H vs Q E hr h => def_run (kt := false) (N := ["length", "flaws", "found", "since", "first", "last"]) h fun c hc =>
  (ess_cons (es_own (i := 2) sc_clear.nd (by rfl) (by first | exact Or.inl rfl | exact Or.inr rfl) (nv_lst av_nil))
    (ess_cons (es_set (i := 3) sc_clear.nd (by rfl) (by first | exact Or.inl rfl | exact Or.inr rfl) ev_int)
    (ess_cons (es_for .never (by rfl) (iv_e (vr 1)) (gv_tp (by rfl) (gvs_cons (gv_nm (i := 4) sc_clear.nd (by rfl) (by first | exact Or.inl rfl | exact Or.inr rfl)) (gvs_cons (gv_nm (i := 5) sc_clear.nd (by rfl) (by first | exact Or.inl rfl | exact Or.inr rfl)) gvs_nil)) (by rfl) (by rfl) (gl_cons (gl_cons gl_nil))) (ess_cons (es_if (tv_gt (vr 4) (vr 3)) (ess_one (es_append (i := 2) (by rfl) (by first | exact Or.inl rfl | exact Or.inr (Or.inl rfl) | exact Or.inr (Or.inr rfl)) (ev_tup (av_cons (vr 3) (av_cons (vr 4) av_nil))))) ess_nil)
    (ess_one (es_set (i := 3) sc_clear.nd (by rfl) (by first | exact Or.inl rfl | exact Or.inr rfl) (ev_max2 (by rfl) (by rfl) T.z_max (vr 3) (vr 5))))))
    (ess_cons (es_if (tv_lt (hu0 hr) (vr 3) (vr 0)) (ess_one (es_append (i := 2) (by rfl) (by first | exact Or.inl rfl | exact Or.inr (Or.inl rfl) | exact Or.inr (Or.inr rfl)) (ev_tup (av_cons (vr 3) (av_cons (vr 0) av_nil))))) ess_nil)
    (ess_frz 2 (ess_one (es_ret (vr 2))))))))
/-! ### fits -/
def b_fits : SF :=
  (sRet (eCall1 hAny (hE (eFrz (nComp (iE (eVar 0)) (gTp (gCns (gNm 3) (gCns (gNm 4) gNls))) pYes (eAnd (eOp hLe (eVar 3) (eVar 1)) (eOp hLe (eOp hAdd (eVar 1) (eVar 2)) (eVar 4))) [3, 4])))))
def g_fits : DS := runDef0 5 b_fits
theorem safe_fits : Safe g_fits := safe_run0
theorem sc_fits : FnScope ["stretches", "begin", "roll", "first", "last"] ["stretches", "begin", "roll"] (defScope s_fits) := ⟨rfl, rfl, rfl, by decide +kernel, rfl, by decide +kernel, by decide +kernel⟩
theorem ok_fits {P : Program} {w : World} {K : PySem.W.Frag} {mg : Str → Option Value} {base : Heap} (T : Tx K mg) : FnOk P w K mg base CX0 1 T.a_fits T.d_fits ["stretches", "begin", "roll"] (spG ⟨K, mg, false⟩ 3 g_fits) :=
  T.F_fits.ok (k := 0) sc_fits (spG_len (ps := ["stretches", "begin", "roll"])) fun cdv A outer s H vs Q E hr h => def_run (kt := false) (N := ["stretches", "begin", "roll", "first", "last"]) h fun c hc =>
  (ess_one (es_ret (ev_any (by rfl) (by rfl) T.z_any (hv_e (ev_frz (nv_lc (by rfl) sc_fits.nd (own := ([("first", 3), ("last", 4)] : List (Str × Nat))) (iv_e (vr 0)) (blkOk_by (N := ["stretches", "begin", "roll", "first", "last"]) (sc := defScope s_fits) (by decide +kernel)) (fun _ _ _ _ _ => (gv_tp (by rfl) (gvs_cons (gv_nm (i := 3) sc_fits.nd (by rfl) (by first | exact Or.inl rfl | exact Or.inr rfl)) (gvs_cons (gv_nm (i := 4) sc_fits.nd (by rfl) (by first | exact Or.inl rfl | exact Or.inr rfl)) gvs_nil)) (by rfl) (by rfl) (gl_cons (gl_cons gl_nil)))) (fun _ _ _ _ _ => tvs_nil) (fun _ _ _ _ _ => (ev_and (ev_le (vr 3) (vr 1)) (ev_one (ev_le (ev_add (vr 1) (vr 2)) (vr 4)))))))))))
/-! ### worths -/
def b_worths : SF :=
  (sSeq (sSet 3 (eCall 2 g_clear (aCons (eVar 0) (aCons (eVar 1) aNil)) []))
    (sSeq (sOwn 4 (nDk1 (eVar 0) (eTup (aCons (eC (.int 0)) (aCons (eC .non) aNil)))))
    (sSeq (sFor (iRg1 (eVar 0)) (gNm 5) (sSeq (sSet 6 (eOp hSub (eOp hSub (eVar 0) (eC (.int 1))) (eVar 5)))
    (sSeq (sSet 7 (eTup (aCons (eOpH (hIx false) (hE (eOpH (hIx false) (hOwn 4) (eOp hAdd (eVar 6) (eC (.int 1))))) (eC (.int 0))) (aCons (eC .non) aNil))))
    (sSeq (sFor (iE (eVar 2)) (gTp (gCns (gNm 8) (gCns (gNm 9) gNls))) (sIf (bAnd (bB (eCall 3 g_fits (aCons (eVar 3) (aCons (eVar 6) (aCons (eVar 8) aNil))) [])) (bB (eOp hGt (eOp hAdd (eVar 9) (eOpH (hIx false) (hE (eOpH (hIx false) (hOwn 4) (eOp hAdd (eVar 6) (eVar 8)))) (eC (.int 0)))) (eOpH (hIx false) (hE (eVar 7)) (eC (.int 0)))))) (sSet 7 (eTup (aCons (eOp hAdd (eVar 9) (eOpH (hIx false) (hE (eOpH (hIx false) (hOwn 4) (eOp hAdd (eVar 6) (eVar 8)))) (eC (.int 0)))) (aCons (eVar 8) aNil)))) sNx))
    (sPutO false 4 (eVar 6) (eVar 7))))))
    (sFrz 4 (sRet (eVar 4))))))
def g_worths : DS := runDef0 10 b_worths
theorem safe_worths : Safe g_worths := safe_run0
theorem sc_worths : FnScope ["length", "flaws", "wants", "stretches", "found", "back", "place", "best", "roll", "worth"] ["length", "flaws", "wants"] (defScope s_worths) := ⟨rfl, rfl, rfl, by decide +kernel, rfl, by decide +kernel, by decide +kernel⟩
theorem ok_worths {P : Program} {w : World} {K : PySem.W.Frag} {mg : Str → Option Value} {base : Heap} (T : Tx K mg) : FnOk P w K mg base CX0 2 T.a_worths T.d_worths ["length", "flaws", "wants"] (spG ⟨K, mg, false⟩ 3 g_worths) :=
  T.F_worths.ok (k := 1) sc_worths (spG_len (ps := ["length", "flaws", "wants"])) fun cdv A outer s H vs Q E hr h => def_run (kt := false) (N := ["length", "flaws", "wants", "stretches", "found", "back", "place", "best", "roll", "worth"]) h fun c hc =>
  (ess_cons (es_set (i := 3) sc_worths.nd (by rfl) (by first | exact Or.inl rfl | exact Or.inr rfl) (ev_cl hc (ok_clear T) safe_clear (hr.mono (by decide)) (by rfl) T.m_clear T.k_clear T.b_clear (av_cons (vr 0) (av_cons (vr 1) av_nil))))
    (ess_cons (es_own (i := 4) sc_worths.nd (by rfl) (by first | exact Or.inl rfl | exact Or.inr rfl) (nv_dk1 (vr 0) (ev_tup (av_cons ev_int (av_cons ev_non av_nil)))))
    (ess_cons (es_for .never (by rfl) (iv_range1 (by rfl) T.z_range (vr 0)) (gv_nm (i := 5) sc_worths.nd (by rfl) (by first | exact Or.inl rfl | exact Or.inr rfl)) (ess_cons (es_set (i := 6) sc_worths.nd (by rfl) (by first | exact Or.inl rfl | exact Or.inr rfl) (ev_sub (ev_sub (vr 0) ev_int) (vr 5)))
    (ess_cons (es_set (i := 7) sc_worths.nd (by rfl) (by first | exact Or.inl rfl | exact Or.inr rfl) (ev_tup (av_cons (ev_ix (hu1 hr) hc (hv_e (ev_ix (hu1 hr) hc (vo 4) (ev_add (vr 6) ev_int))) ev_int) (av_cons ev_non av_nil))))
    (ess_cons (es_for .never (by rfl) (iv_e (vr 2)) (gv_tp (by rfl) (gvs_cons (gv_nm (i := 8) sc_worths.nd (by rfl) (by first | exact Or.inl rfl | exact Or.inr rfl)) (gvs_cons (gv_nm (i := 9) sc_worths.nd (by rfl) (by first | exact Or.inl rfl | exact Or.inr rfl)) gvs_nil)) (by rfl) (by rfl) (gl_cons (gl_cons gl_nil))) (ess_one (es_if (tv_w (wv_and (tv_e (ev_cl hc (ok_fits T) safe_fits (hr.mono (by decide)) (by rfl) T.m_fits T.k_fits T.b_fits (av_cons (vr 3) (av_cons (vr 6) (av_cons (vr 8) av_nil))))) (wv_and1 (tv_gt (ev_add (vr 9) (ev_ix (hu1 hr) hc (hv_e (ev_ix (hu1 hr) hc (vo 4) (ev_add (vr 6) (vr 8)))) ev_int)) (ev_ix (hu1 hr) hc (vh 7) ev_int))))) (ess_one (es_set (i := 7) sc_worths.nd (by rfl) (by first | exact Or.inl rfl | exact Or.inr rfl) (ev_tup (av_cons (ev_add (vr 9) (ev_ix (hu1 hr) hc (hv_e (ev_ix (hu1 hr) hc (vo 4) (ev_add (vr 6) (vr 8)))) ev_int)) (av_cons (vr 8) av_nil))))) ess_nil)))
    (ess_one (es_putO (i := 4) (hu1 hr) hc (by rfl) (by first | exact Or.inl rfl | exact Or.inr (Or.inl rfl) | exact Or.inr (Or.inr rfl)) (vr 6) (vr 7)))))))
    (ess_frz 4 (ess_one (es_ret (vr 4)))))))
/-! ### best_cuts -/
def b_best_cuts : SF :=
  (sSeq (sSet 3 (eCall 3 g_worths (aCons (eVar 0) (aCons (eVar 1) (aCons (eVar 2) aNil))) []))
    (sSeq (sOwn 4 (nLst aNil))
    (sSeq (sSet 5 (eC (.int 0)))
    (sSeq (wLoop (bB (eOp hLt (eVar 5) (eVar 0))) (sSeq (sSet 6 (eOpH (hIx false) (hE (eOpH (hIx false) (hE (eVar 3)) (eVar 5))) (eC (.int 1))))
    (sSeq (sIf (bB (eOp hIsNot (eVar 6) (eC .non))) (sOwnM mAppend 4 (aCons (eTup (aCons (eVar 5) (aCons (eVar 6) aNil))) aNil)) sNx)
    (sAugI 5 (eIf (bB (eOp hIs (eVar 6) (eC .non))) (eC (.int 1)) (eVar 6))))) fuelN)
    (sRet (eCall1 hTuple (hOwn 4)))))))
def g_best_cuts : DS := runDef0 7 b_best_cuts
theorem safe_best_cuts : Safe g_best_cuts := safe_run0
theorem sc_best_cuts : FnScope ["length", "flaws", "wants", "known", "found", "place", "roll"] ["length", "flaws", "wants"] (defScope s_best_cuts) := ⟨rfl, rfl, rfl, by decide +kernel, rfl, by decide +kernel, by decide +kernel⟩
theorem ok_best_cuts {P : Program} {w : World} {K : PySem.W.Frag} {mg : Str → Option Value} {base : Heap} (T : Tx K mg) : FnOk P w K mg base CX0 3 T.a_best_cuts T.d_best_cuts ["length", "flaws", "wants"] (spG ⟨K, mg, false⟩ 3 g_best_cuts) :=
  T.F_best_cuts.ok (k := 2) sc_best_cuts (spG_len (ps := ["length", "flaws", "wants"])) fun cdv A outer s H vs Q E hr h => def_run (kt := false) (N := ["length", "flaws", "wants", "known", "found", "place", "roll"]) h fun c hc =>
  (ess_cons (es_set (i := 3) sc_best_cuts.nd (by rfl) (by first | exact Or.inl rfl | exact Or.inr rfl) (ev_cl hc (ok_worths T) safe_worths (hr.mono (by decide)) (by rfl) T.m_worths T.k_worths T.b_worths (av_cons (vr 0) (av_cons (vr 1) (av_cons (vr 2) av_nil)))))
    (ess_cons (es_own (i := 4) sc_best_cuts.nd (by rfl) (by first | exact Or.inl rfl | exact Or.inr rfl) (nv_lst av_nil))
    (ess_cons (es_set (i := 5) sc_best_cuts.nd (by rfl) (by first | exact Or.inl rfl | exact Or.inr rfl) ev_int)
    (ess_cons (es_while fuelN .never (tv_lt (hu0 hr) (vr 5) (vr 0)) (ess_cons (es_set (i := 6) sc_best_cuts.nd (by rfl) (by first | exact Or.inl rfl | exact Or.inr rfl) (ev_ix (hu1 hr) hc (hv_e (ev_ix (hu1 hr) hc (vh 3) (vr 5))) ev_int))
    (ess_cons (es_if (tv_isNot (vr 6) ev_non) (ess_one (es_append (i := 4) (by rfl) (by first | exact Or.inl rfl | exact Or.inr (Or.inl rfl) | exact Or.inr (Or.inr rfl)) (ev_tup (av_cons (vr 5) (av_cons (vr 6) av_nil))))) ess_nil)
    (ess_one (es_aug (i := 5) sc_best_cuts.nd (by rfl) (by first | exact Or.inl rfl | exact Or.inr rfl) (ev_if (tv_is (vr 6) ev_non) ev_int (vr 6)))))))
    (ess_one (es_ret (ev_tuple (by rfl) T.z_tuple (vo 4))))))))
/-! ### cut_paper -/
def b_cut_paper : SF :=
  (sSeq (sSet 3 (eCall 3 g_worths (aCons (eVar 0) (aCons (eVar 1) (aCons (eVar 2) aNil))) []))
    (sRet (eCall1 hTuple (hE (eFrz (nComp (iRg1 (eOp hAdd (eVar 0) (eC (.int 1)))) (gNm 4) pYes (eOpH (hIx false) (hE (eOpH (hIx false) (hE (eVar 3)) (eVar 4))) (eC (.int 0))) [4]))))))
def g_cut_paper : DS := runDef0 5 b_cut_paper
theorem safe_cut_paper : Safe g_cut_paper := safe_run0
theorem sc_cut_paper : FnScope ["length", "flaws", "wants", "known", "place"] ["length", "flaws", "wants"] (defScope s_cut_paper) := ⟨rfl, rfl, rfl, by decide +kernel, rfl, by decide +kernel, by decide +kernel⟩
theorem ok_cut_paper {P : Program} {w : World} {K : PySem.W.Frag} {mg : Str → Option Value} {base : Heap} (T : Tx K mg) : FnOk P w K mg base CX0 3 T.a_cut_paper T.d_cut_paper ["length", "flaws", "wants"] (spG ⟨K, mg, false⟩ 3 g_cut_paper) :=
  T.F_cut_paper.ok (k := 2) sc_cut_paper (spG_len (ps := ["length", "flaws", "wants"])) fun cdv A outer s H vs Q E hr h => def_run (kt := false) (N := ["length", "flaws", "wants", "known", "place"]) h fun c hc =>
  (ess_cons (es_set (i := 3) sc_cut_paper.nd (by rfl) (by first | exact Or.inl rfl | exact Or.inr rfl) (ev_cl hc (ok_worths T) safe_worths (hr.mono (by decide)) (by rfl) T.m_worths T.k_worths T.b_worths (av_cons (vr 0) (av_cons (vr 1) (av_cons (vr 2) av_nil)))))
    (ess_one (es_ret (ev_tuple (by rfl) T.z_tuple (hv_e (ev_frz (nv_lc (by rfl) sc_cut_paper.nd (own := ([("place", 4)] : List (Str × Nat))) (iv_range1 (by rfl) T.z_range (ev_add (vr 0) ev_int)) (blkOk_by (N := ["length", "flaws", "wants", "known", "place"]) (sc := defScope s_cut_paper) (by decide +kernel)) (fun _ _ _ _ _ => (gv_nm (i := 4) sc_cut_paper.nd (by rfl) (by first | exact Or.inl rfl | exact Or.inr rfl))) (fun _ _ _ _ _ => tvs_nil) (fun _ _ _ _ _ => (ev_ix (hu1 hr) hc (hv_e (ev_ix (hu1 hr) hc (vh 3) (vr 4))) ev_int)))))))))
/-! ### _law_draw -/
def b__law_draw : SF :=
  (sSeq (sSet 2 (eC (.int 2305843009213693951)))
    (sSeq (sIf (bB (eOp hLt (eOpH (hIx false) (hE (eVar 0)) (eC (.int 2))) (eVar 1))) (sSeq (sSet 3 (eC (.int 0)))
    (sSeq (sIf (bB (eOp hGt (eCall1 hLen (hE (eOpH (hIx false) (hE (eVar 0)) (eC (.int 0))))) (eC (.int 0)))) (sSet 3 (eOpH (hIx false) (hE (eOpH (hIx false) (hE (eVar 0)) (eC (.int 0)))) (eOp hMod (eOpH (hIx false) (hE (eVar 0)) (eC (.int 1))) (eCall1 hLen (hE (eOpH (hIx false) (hE (eVar 0)) (eC (.int 0)))))))) sNx)
    (sSeq (sIf (bOr (bB (eOp hGe (eOpH (hIx false) (hE (eVar 0)) (eC (.int 1))) (eCall1 hLen (hE (eOpH (hIx false) (hE (eVar 0)) (eC (.int 0))))))) (bB (eOp hLt (eVar 3) (eOp hPow (eC (.int 10)) (eC (.int 18)))))) (sSeq (sSet 3 (eOp hMod (eOp hAdd (eVar 3) (eOp hMulI (eC (.int 1000003)) (eOpH (hIx false) (hE (eVar 0)) (eC (.int 1))))) (eVar 2)))
    (sSeq (sSet 3 (eOp hMod (eOp hAdd (eOp hAdd (eOp hMulI (eVar 3) (eVar 3)) (eOp hMulI (eC (.int 1181783497276652981)) (eVar 3))) (eC (.int 2049848353892358983))) (eVar 2)))
    (sSet 3 (eOp hMod (eOp hAdd (eOp hMulI (eVar 3) (eVar 3)) (eC (.int 1442695040888963407))) (eVar 2))))) sNx)
    (sSeq (sPutL false (eVar 0) (eC (.int 1)) (eOp hAdd (eOpH (hIx false) (hE (eVar 0)) (eC (.int 1))) (eC (.int 1))))
    (sPutL false (eVar 0) (eC (.int 2)) (eVar 3)))))) sNx)
    (sSeq (sSet 4 (eOp hMod (eOpH (hIx false) (hE (eVar 0)) (eC (.int 2))) (eVar 1)))
    (sSeq (sPutL false (eVar 0) (eC (.int 2)) (eOp hDiv (eOpH (hIx false) (hE (eVar 0)) (eC (.int 2))) (eVar 1)))
    (sRet (eVar 4))))))
def g__law_draw : DS := runDef0 5 b__law_draw
theorem safe__law_draw : Safe g__law_draw := safe_run0
theorem sc__law_draw : FnScope ["tape", "many", "prime", "cell", "found"] ["tape", "many"] (defScope s__law_draw) := ⟨rfl, rfl, rfl, by decide +kernel, rfl, by decide +kernel, by decide +kernel⟩
theorem ok__law_draw {P : Program} {w : World} {K : PySem.W.Frag} {mg : Str → Option Value} {base : Heap} (T : Tx K mg) : FnOk P w K mg base CX0 1 T.a__law_draw T.d__law_draw ["tape", "many"] (spG ⟨K, mg, false⟩ 2 g__law_draw) :=
  T.F__law_draw.ok (k := 0) sc__law_draw (spG_len (ps := ["tape", "many"])) fun cdv A outer s H vs Q E hr h => def_run (kt := false) (N := ["tape", "many", "prime", "cell", "found"]) h fun c hc =>
  (ess_cons (es_set (i := 2) sc__law_draw.nd (by rfl) (by first | exact Or.inl rfl | exact Or.inr rfl) ev_int)
    (ess_cons (es_if (tv_lt (hu0 hr) (ev_ix (hu1 hr) hc (vh 0) ev_int) (vr 1)) (ess_cons (es_set (i := 3) sc__law_draw.nd (by rfl) (by first | exact Or.inl rfl | exact Or.inr rfl) ev_int)
    (ess_cons (es_if (tv_gt (ev_len (by rfl) T.z_len (hv_e (ev_ix (hu1 hr) hc (vh 0) ev_int))) ev_int) (ess_one (es_set (i := 3) sc__law_draw.nd (by rfl) (by first | exact Or.inl rfl | exact Or.inr rfl) (ev_ix (hu1 hr) hc (hv_e (ev_ix (hu1 hr) hc (vh 0) ev_int)) (ev_mod (ev_ix (hu1 hr) hc (vh 0) ev_int) (ev_len (by rfl) T.z_len (hv_e (ev_ix (hu1 hr) hc (vh 0) ev_int))))))) ess_nil)
    (ess_cons (es_if (tv_w (wv_or (tv_ge (ev_ix (hu1 hr) hc (vh 0) ev_int) (ev_len (by rfl) T.z_len (hv_e (ev_ix (hu1 hr) hc (vh 0) ev_int)))) (wv_or1 (tv_lt (hu0 hr) (vr 3) (ev_pow ev_int ev_int))))) (ess_cons (es_set (i := 3) sc__law_draw.nd (by rfl) (by first | exact Or.inl rfl | exact Or.inr rfl) (ev_mod (ev_add (vr 3) (ev_mul ev_int (ev_ix (hu1 hr) hc (vh 0) ev_int))) (vr 2)))
    (ess_cons (es_set (i := 3) sc__law_draw.nd (by rfl) (by first | exact Or.inl rfl | exact Or.inr rfl) (ev_mod (ev_add (ev_add (ev_mul (vr 3) (vr 3)) (ev_mul ev_int (vr 3))) ev_int) (vr 2)))
    (ess_one (es_set (i := 3) sc__law_draw.nd (by rfl) (by first | exact Or.inl rfl | exact Or.inr rfl) (ev_mod (ev_add (ev_mul (vr 3) (vr 3)) ev_int) (vr 2)))))) ess_nil)
    (ess_cons (es_putL (hu1 hr) hc (vr 0) ev_int (ev_add (ev_ix (hu1 hr) hc (vh 0) ev_int) ev_int))
    (ess_one (es_putL (hu1 hr) hc (vr 0) ev_int (vr 3))))))) ess_nil)
    (ess_cons (es_set (i := 4) sc__law_draw.nd (by rfl) (by first | exact Or.inl rfl | exact Or.inr rfl) (ev_mod (ev_ix (hu1 hr) hc (vh 0) ev_int) (vr 1)))
    (ess_cons (es_putL (hu1 hr) hc (vr 0) ev_int (ev_fdiv (ev_ix (hu1 hr) hc (vh 0) ev_int) (vr 1)))
    (ess_one (es_ret (vr 4)))))))
/-! ### _law_flaws -/
def b__law_flaws : SF :=
  (sSeq (sOwn 2 nDt)
    (sSeq (sFor (iRg1 (eCall 2 g__law_draw (aCons (eVar 0) (aCons (eOpH (hIx false) (hE (eFrz (nLst (aCons (eC (.int 3)) (aCons (eC (.int 9)) aNil))))) (eCall 2 g__law_draw (aCons (eVar 0) (aCons (eC (.int 2)) aNil)) [])) aNil)) [])) (gNm 3) (sSeq (sSet 4 (eCall 2 g__law_draw (aCons (eVar 0) (aCons (eVar 1) aNil)) []))
    (sPutO false 2 (eTup (aCons (eVar 4) (aCons (eOp hAdd (eOp hAdd (eVar 4) (eC (.int 1))) (eCall 2 g__law_draw (aCons (eVar 0) (aCons (eOp hMin2 (eC (.int 9)) (eOp hSub (eVar 1) (eVar 4))) aNil)) [])) aNil))) (eC (.bl true)))))
    (sRet (eCall1 hTuple (hE (eFrz (nCall1 nSortedK (hOwn 2))))))))
def g__law_flaws : DS := runDef0 5 b__law_flaws
theorem safe__law_flaws : Safe g__law_flaws := safe_run0
theorem sc__law_flaws : FnScope ["tape", "length", "found", "k", "first"] ["tape", "length"] (defScope s__law_flaws) := ⟨rfl, rfl, rfl, by decide +kernel, rfl, by decide +kernel, by decide +kernel⟩
theorem ok__law_flaws {P : Program} {w : World} {K : PySem.W.Frag} {mg : Str → Option Value} {base : Heap} (T : Tx K mg) : FnOk P w K mg base CX0 2 T.a__law_flaws T.d__law_flaws ["tape", "length"] (spG ⟨K, mg, false⟩ 2 g__law_flaws) :=
  T.F__law_flaws.ok (k := 1) sc__law_flaws (spG_len (ps := ["tape", "length"])) fun cdv A outer s H vs Q E hr h => def_run (kt := false) (N := ["tape", "length", "found", "k", "first"]) h fun c hc =>
  (ess_cons (es_own (i := 2) sc__law_flaws.nd (by rfl) (by first | exact Or.inl rfl | exact Or.inr rfl) nv_dt)
    (ess_cons (es_for .never (by rfl) (iv_range1 (by rfl) T.z_range (ev_cl hc (ok__law_draw T) safe__law_draw (hr.mono (by decide)) (by rfl) T.m__law_draw T.k__law_draw T.b__law_draw (av_cons (vr 0) (av_cons (ev_ix (hu1 hr) hc (hv_e (ev_frz (nv_lst (av_cons ev_int (av_cons ev_int av_nil))))) (ev_cl hc (ok__law_draw T) safe__law_draw (hr.mono (by decide)) (by rfl) T.m__law_draw T.k__law_draw T.b__law_draw (av_cons (vr 0) (av_cons ev_int av_nil)))) av_nil)))) (gv_nm (i := 3) sc__law_flaws.nd (by rfl) (by first | exact Or.inl rfl | exact Or.inr rfl)) (ess_cons (es_set (i := 4) sc__law_flaws.nd (by rfl) (by first | exact Or.inl rfl | exact Or.inr rfl) (ev_cl hc (ok__law_draw T) safe__law_draw (hr.mono (by decide)) (by rfl) T.m__law_draw T.k__law_draw T.b__law_draw (av_cons (vr 0) (av_cons (vr 1) av_nil))))
    (ess_one (es_putO (i := 2) (hu1 hr) hc (by rfl) (by first | exact Or.inl rfl | exact Or.inr (Or.inl rfl) | exact Or.inr (Or.inr rfl)) (ev_tup (av_cons (vr 4) (av_cons (ev_add (ev_add (vr 4) ev_int) (ev_cl hc (ok__law_draw T) safe__law_draw (hr.mono (by decide)) (by rfl) T.m__law_draw T.k__law_draw T.b__law_draw (av_cons (vr 0) (av_cons (ev_min2 (by rfl) (by rfl) T.z_min ev_int (ev_sub (vr 1) (vr 4))) av_nil)))) av_nil))) ev_bl))))
    (ess_one (es_ret (ev_tuple (by rfl) T.z_tuple (hv_e (ev_frz (nv_sortedK (by rfl) hc (by rfl) T.z_sorted (vo 2)))))))))
/-! ### _law_wants -/
def b__law_wants : SF :=
  (sSeq (sOwn 2 nDk)
    (sSeq (sFor (iRg1 (eOp hAdd (eC (.int 1)) (eCall 2 g__law_draw (aCons (eVar 0) (aCons (eC (.int 3)) aNil)) []))) (gNm 3) (sSeq (sSet 4 (eOpH (hIx false) (hE (eFrz (nLst (aCons (eC (.int 1)) (aCons (eC (.int 2)) (aCons (eC (.int 3)) (aCons (eC (.int 7)) (aCons (eOp hAdd (eC (.int 1)) (eCall 2 g__law_draw (aCons (eVar 0) (aCons (eVar 1) aNil)) [])) aNil)))))))) (eCall 2 g__law_draw (aCons (eVar 0) (aCons (eC (.int 5)) aNil)) [])))
    (sPutO false 2 (eOp hMin2 (eC (.int 200)) (eVar 4)) (eOp hAdd (eC (.int 1)) (eCall 2 g__law_draw (aCons (eVar 0) (aCons (eOpH (hIx false) (hE (eFrz (nLst (aCons (eC (.int 5)) (aCons (eC (.int 20)) (aCons (eC (.int 1000)) aNil)))))) (eCall 2 g__law_draw (aCons (eVar 0) (aCons (eC (.int 3)) aNil)) [])) aNil)) [])))))
    (sRet (eCall1 hTuple (hE (eFrz (nComp (iE (eFrz (nCall1 nSorted (hOwn 2)))) (gNm 4) pYes (eTup (aCons (eVar 4) (aCons (eOpH (hIx false) (hOwn 2) (eVar 4)) aNil))) [4])))))))
def g__law_wants : DS := runDef0 5 b__law_wants
theorem safe__law_wants : Safe g__law_wants := safe_run0
theorem sc__law_wants : FnScope ["tape", "length", "found", "k", "roll"] ["tape", "length"] (defScope s__law_wants) := ⟨rfl, rfl, rfl, by decide +kernel, rfl, by decide +kernel, by decide +kernel⟩
theorem ok__law_wants {P : Program} {w : World} {K : PySem.W.Frag} {mg : Str → Option Value} {base : Heap} (T : Tx K mg) : FnOk P w K mg base CX0 2 T.a__law_wants T.d__law_wants ["tape", "length"] (spG ⟨K, mg, false⟩ 2 g__law_wants) :=
  T.F__law_wants.ok (k := 1) sc__law_wants (spG_len (ps := ["tape", "length"])) fun cdv A outer s H vs Q E hr h => def_run (kt := false) (N := ["tape", "length", "found", "k", "roll"]) h fun c hc =>
  (ess_cons (es_own (i := 2) sc__law_wants.nd (by rfl) (by first | exact Or.inl rfl | exact Or.inr rfl) nv_dk)
    (ess_cons (es_for .never (by rfl) (iv_range1 (by rfl) T.z_range (ev_add ev_int (ev_cl hc (ok__law_draw T) safe__law_draw (hr.mono (by decide)) (by rfl) T.m__law_draw T.k__law_draw T.b__law_draw (av_cons (vr 0) (av_cons ev_int av_nil))))) (gv_nm (i := 3) sc__law_wants.nd (by rfl) (by first | exact Or.inl rfl | exact Or.inr rfl)) (ess_cons (es_set (i := 4) sc__law_wants.nd (by rfl) (by first | exact Or.inl rfl | exact Or.inr rfl) (ev_ix (hu1 hr) hc (hv_e (ev_frz (nv_lst (av_cons ev_int (av_cons ev_int (av_cons ev_int (av_cons ev_int (av_cons (ev_add ev_int (ev_cl hc (ok__law_draw T) safe__law_draw (hr.mono (by decide)) (by rfl) T.m__law_draw T.k__law_draw T.b__law_draw (av_cons (vr 0) (av_cons (vr 1) av_nil)))) av_nil)))))))) (ev_cl hc (ok__law_draw T) safe__law_draw (hr.mono (by decide)) (by rfl) T.m__law_draw T.k__law_draw T.b__law_draw (av_cons (vr 0) (av_cons ev_int av_nil)))))
    (ess_one (es_putO (i := 2) (hu1 hr) hc (by rfl) (by first | exact Or.inl rfl | exact Or.inr (Or.inl rfl) | exact Or.inr (Or.inr rfl)) (ev_min2 (by rfl) (by rfl) T.z_min ev_int (vr 4)) (ev_add ev_int (ev_cl hc (ok__law_draw T) safe__law_draw (hr.mono (by decide)) (by rfl) T.m__law_draw T.k__law_draw T.b__law_draw (av_cons (vr 0) (av_cons (ev_ix (hu1 hr) hc (hv_e (ev_frz (nv_lst (av_cons ev_int (av_cons ev_int (av_cons ev_int av_nil)))))) (ev_cl hc (ok__law_draw T) safe__law_draw (hr.mono (by decide)) (by rfl) T.m__law_draw T.k__law_draw T.b__law_draw (av_cons (vr 0) (av_cons ev_int av_nil)))) av_nil))))))))
    (ess_one (es_ret (ev_tuple (by rfl) T.z_tuple (hv_e (ev_frz (nv_lc (by rfl) sc__law_wants.nd (own := ([("roll", 4)] : List (Str × Nat))) (iv_e (ev_frz (nv_sorted (by rfl) (by rfl) T.z_sorted (vo 2)))) (blkOk_by (N := ["tape", "length", "found", "k", "roll"]) (sc := defScope s__law_wants) (by decide +kernel)) (fun _ _ _ _ _ => (gv_nm (i := 4) sc__law_wants.nd (by rfl) (by first | exact Or.inl rfl | exact Or.inr rfl))) (fun _ _ _ _ _ => tvs_nil) (fun _ _ _ _ _ => (ev_tup (av_cons (vr 4) (av_cons (ev_ix (hu1 hr) hc (vo 2) (vr 4)) av_nil))))))))))))
/-! ### _law_of -/
def b__law_of : SF :=
  (sRet (eOpH (hIx false) (hE (eCall 3 g_cut_paper (aCons (eVar 0) (aCons (eVar 1) (aCons (eVar 2) aNil))) [])) (eC (.int 0))))
def g__law_of : DS := runDef0 3 b__law_of
theorem safe__law_of : Safe g__law_of := safe_run0
theorem sc__law_of : FnScope ["size", "some", "sorts"] ["size", "some", "sorts"] (defScope s__law_of) := ⟨rfl, rfl, rfl, by decide +kernel, rfl, by decide +kernel, by decide +kernel⟩
theorem ok__law_of {P : Program} {w : World} {K : PySem.W.Frag} {mg : Str → Option Value} {base : Heap} (T : Tx K mg) : FnOk P w K mg base CX0 4 T.a__law_of T.d__law_of ["size", "some", "sorts"] (spG ⟨K, mg, false⟩ 3 g__law_of) :=
  T.F__law_of.ok (k := 3) sc__law_of (spG_len (ps := ["size", "some", "sorts"])) fun cdv A outer s H vs Q E hr h => def_run (kt := false) (N := ["size", "some", "sorts"]) h fun c hc =>
  (ess_one (es_ret (ev_ix (hu1 hr) hc (hv_e (ev_cl hc (ok_cut_paper T) safe_cut_paper (hr.mono (by decide)) (by rfl) T.m_cut_paper T.k_cut_paper T.b_cut_paper (av_cons (vr 0) (av_cons (vr 1) (av_cons (vr 2) av_nil))))) ev_int)))
/-! ### law -/
def b_law : SF :=
  (sSeq (sSet 1 (eNew (nLst (aCons (eFrz (nCall1 nList (hE (eVar 0)))) (aCons (eC (.int 0)) (aCons (eC (.int 0)) aNil))))))
    (sSeq (sFor (iRg1 (eC (.int 4))) (gNm 2) (sSeq (sAsg (eTup (aCons (eOp hAdd (eC (.int 1)) (eCall 2 g__law_draw (aCons (eVar 1) (aCons (eC (.int 90)) aNil)) [])) (aCons (eOp hAdd (eC (.int 1)) (eCall 2 g__law_draw (aCons (eVar 1) (aCons (eC (.int 90)) aNil)) [])) aNil))) (gTp (gCns (gNm 3) (gCns (gNm 4) gNls))))
    (sSeq (sAsg (eTup (aCons (eCall 2 g__law_flaws (aCons (eVar 1) (aCons (eVar 3) aNil)) []) (aCons (eCall 2 g__law_wants (aCons (eVar 1) (aCons (eC (.int 20)) aNil)) []) aNil))) (gTp (gCns (gNm 5) (gCns (gNm 6) gNls))))
    (sSeq (sPar 7 8 (eCall 3 g__law_of (aCons (eVar 3) (aCons (eVar 5) (aCons (eVar 6) aNil))) []) (eCall 2 g__law_draw (aCons (eVar 1) (aCons (eVar 3) aNil)) []))
    (sSeq (sIf (bB (eOp hNe (eCall1 hSum (hE (eFrz (nComp (iE (eCall 3 g_best_cuts (aCons (eVar 3) (aCons (eVar 5) (aCons (eVar 6) aNil))) [])) (gTp (gCns (gNm 9) (gCns (gNm 10) gNls))) pYes (eOpH (hIx false) (hE (eFrz (nCall1 (nDict false) (hE (eVar 6))))) (eVar 10)) [9, 10])))) (eVar 7))) (sRet (eC (.bl false))) sNx)
    (sSeq (sSet 11 (eCall1 hTuple (hE (eFrz (nSrtSet (eOp hAdd (eVar 5) (eTup (aCons (eTup (aCons (eVar 8) (aCons (eOp hAdd (eOp hAdd (eVar 8) (eC (.int 1))) (eCall 2 g__law_draw (aCons (eVar 1) (aCons (eOp hSub (eVar 3) (eVar 8)) aNil)) [])) aNil))) aNil))))))))
    (sSeq (sIf (bB (eOp hGt (eCall 3 g__law_of (aCons (eVar 3) (aCons (eVar 11) (aCons (eVar 6) aNil))) []) (eVar 7))) (sRet (eC (.bl false))) sNx)
    (sSeq (sSet 14 (eCall1 hTuple (hE (eFrz (nCall1 nSortedP (hE (eFrz (nComp (iE (eVar 5)) (gTp (gCns (gNm 12) (gCns (gNm 13) gNls))) pYes (eTup (aCons (eOp hSub (eVar 3) (eVar 13)) (aCons (eOp hSub (eVar 3) (eVar 12)) aNil))) [12, 13]))))))))
    (sSeq (sIf (bB (eOp hNe (eCall 3 g__law_of (aCons (eVar 3) (aCons (eVar 14) (aCons (eVar 6) aNil))) []) (eVar 7))) (sRet (eC (.bl false))) sNx)
    (sSeq (sSet 15 (eCall 2 g__law_flaws (aCons (eVar 1) (aCons (eVar 4) aNil)) []))
    (sSeq (sSet 16 (eOp hAdd (eVar 5) (eCall1 hTuple (hE (eFrz (nComp (iE (eVar 15)) (gTp (gCns (gNm 12) (gCns (gNm 13) gNls))) pYes (eTup (aCons (eOp hAdd (eVar 3) (eVar 12)) (aCons (eOp hAdd (eVar 3) (eVar 13)) aNil))) [12, 13]))))))
    (sSeq (sSet 17 (eOp hAdd (eVar 7) (eCall 3 g__law_of (aCons (eVar 4) (aCons (eVar 15) (aCons (eVar 6) aNil))) [])))
    (sSeq (sIf (bB (eOp hLt (eCall 3 g__law_of (aCons (eOp hAdd (eVar 3) (eVar 4)) (aCons (eVar 16) (aCons (eVar 6) aNil))) []) (eVar 17))) (sRet (eC (.bl false))) sNx)
    (sSeq (sSet 18 (eCall1 hTuple (hE (eFrz (nComp (iE (eVar 15)) (gTp (gCns (gNm 12) (gCns (gNm 13) gNls))) pYes (eTup (aCons (eOp hAdd (eOp hAdd (eVar 3) (eC (.int 1))) (eVar 12)) (aCons (eOp hAdd (eOp hAdd (eVar 3) (eC (.int 1))) (eVar 13)) aNil))) [12, 13])))))
    (sSeq (sSet 19 (eOp hAdd (eOp hAdd (eVar 5) (eTup (aCons (eTup (aCons (eVar 3) (aCons (eOp hAdd (eVar 3) (eC (.int 1))) aNil))) aNil))) (eVar 18)))
    (sSeq (sIf (bB (eOp hNe (eCall 3 g__law_of (aCons (eOp hAdd (eOp hAdd (eVar 3) (eC (.int 1))) (eVar 4)) (aCons (eVar 19) (aCons (eVar 6) aNil))) []) (eVar 17))) (sRet (eC (.bl false))) sNx)
    (sSeq (sIf (bAnd (bB (eOp hGt (eCall1 hLen (hE (eVar 6))) (eC (.int 1)))) (bB (eOp hGt (eCall 3 g__law_of (aCons (eVar 3) (aCons (eVar 5) (aCons (eSlice (hE (eVar 6)) (oE (eC (.int 1))) oNo) aNil))) []) (eVar 7)))) (sRet (eC (.bl false))) sNx)
    (sSeq (sSet 20 (eOp hAdd (eC (.int 1)) (eCall 2 g__law_draw (aCons (eVar 1) (aCons (eC (.int 9)) aNil)) [])))
    (sSeq (sSet 22 (eCall1 hTuple (hE (eFrz (nComp (iE (eVar 6)) (gTp (gCns (gNm 10) (gCns (gNm 21) gNls))) pYes (eTup (aCons (eVar 10) (aCons (eOp hAdd (eC (.int 1)) (eOp hMod (eVar 21) (eC (.int 100)))) aNil))) [10, 21])))))
    (sSeq (sSet 23 (eCall1 hTuple (hE (eFrz (nComp (iE (eVar 22)) (gTp (gCns (gNm 10) (gCns (gNm 21) gNls))) pYes (eTup (aCons (eVar 10) (aCons (eOp hMulI (eVar 21) (eVar 20)) aNil))) [10, 21])))))
    (sIf (bB (eOp hNe (eCall 3 g__law_of (aCons (eVar 3) (aCons (eVar 5) (aCons (eVar 23) aNil))) []) (eOp hMulI (eVar 20) (eCall 3 g__law_of (aCons (eVar 3) (aCons (eVar 5) (aCons (eVar 22) aNil))) [])))) (sRet (eC (.bl false))) sNx)))))))))))))))))))))
    (sRet (eC (.bl true)))))
def g_law : DS := runDef0 24 b_law
theorem safe_law : Safe g_law := safe_run0
theorem sc_law : FnScope ["script", "tape", "turn", "size", "other", "some", "sorts", "worth", "begin", "at", "roll", "more", "first", "last", "turned", "far", "wide", "both", "behind", "parted", "my_by", "one", "dear", "great"] ["script"] (defScope s_law) := ⟨rfl, rfl, rfl, by decide +kernel, rfl, by decide +kernel, by decide +kernel⟩
theorem ok_law {P : Program} {w : World} {K : PySem.W.Frag} {mg : Str → Option Value} {base : Heap} (T : Tx K mg) : FnOk P w K mg base CX0 5 T.a_law T.d_law ["script"] (spG ⟨K, mg, false⟩ 1 g_law) :=
  T.F_law.ok (k := 4) sc_law (spG_len (ps := ["script"])) fun cdv A outer s H vs Q E hr h => def_run (kt := false) (N := ["script", "tape", "turn", "size", "other", "some", "sorts", "worth", "begin", "at", "roll", "more", "first", "last", "turned", "far", "wide", "both", "behind", "parted", "my_by", "one", "dear", "great"]) h fun c hc =>
  (ess_cons (es_set (i := 1) sc_law.nd (by rfl) (by first | exact Or.inl rfl | exact Or.inr rfl) (ev_new (nv_lst (av_cons (ev_frz (nv_list (by rfl) (by rfl) T.z_list (vh 0))) (av_cons ev_int (av_cons ev_int av_nil))))))
    (ess_cons (es_for .never (by rfl) (iv_range1 (by rfl) T.z_range ev_int) (gv_nm (i := 2) sc_law.nd (by rfl) (by first | exact Or.inl rfl | exact Or.inr rfl)) (ess_cons (es_asg (ev_tup (av_cons (ev_add ev_int (ev_cl hc (ok__law_draw T) safe__law_draw (hr.mono (by decide)) (by rfl) T.m__law_draw T.k__law_draw T.b__law_draw (av_cons (vr 1) (av_cons ev_int av_nil)))) (av_cons (ev_add ev_int (ev_cl hc (ok__law_draw T) safe__law_draw (hr.mono (by decide)) (by rfl) T.m__law_draw T.k__law_draw T.b__law_draw (av_cons (vr 1) (av_cons ev_int av_nil)))) av_nil))) (gv_tp (by rfl) (gvs_cons (gv_nm (i := 3) sc_law.nd (by rfl) (by first | exact Or.inl rfl | exact Or.inr rfl)) (gvs_cons (gv_nm (i := 4) sc_law.nd (by rfl) (by first | exact Or.inl rfl | exact Or.inr rfl)) gvs_nil)) (by rfl) (by rfl) (gl_cons (gl_cons gl_nil))))
    (ess_cons (es_asg (ev_tup (av_cons (ev_cl hc (ok__law_flaws T) safe__law_flaws (hr.mono (by decide)) (by rfl) T.m__law_flaws T.k__law_flaws T.b__law_flaws (av_cons (vr 1) (av_cons (vr 3) av_nil))) (av_cons (ev_cl hc (ok__law_wants T) safe__law_wants (hr.mono (by decide)) (by rfl) T.m__law_wants T.k__law_wants T.b__law_wants (av_cons (vr 1) (av_cons ev_int av_nil))) av_nil))) (gv_tp (by rfl) (gvs_cons (gv_nm (i := 5) sc_law.nd (by rfl) (by first | exact Or.inl rfl | exact Or.inr rfl)) (gvs_cons (gv_nm (i := 6) sc_law.nd (by rfl) (by first | exact Or.inl rfl | exact Or.inr rfl)) gvs_nil)) (by rfl) (by rfl) (gl_cons (gl_cons gl_nil))))
    (ess_cons (es_par (i := 7) (j := 8) (by rfl) sc_law.nd (by rfl) (by rfl) (by decide) (by rfl) (by rfl) (ev_cl hc (ok__law_of T) safe__law_of (hr.mono (by decide)) (by rfl) T.m__law_of T.k__law_of T.b__law_of (av_cons (vr 3) (av_cons (vr 5) (av_cons (vr 6) av_nil)))) (ev_cl hc (ok__law_draw T) safe__law_draw (hr.mono (by decide)) (by rfl) T.m__law_draw T.k__law_draw T.b__law_draw (av_cons (vr 1) (av_cons (vr 3) av_nil))) (by rfl))
    (ess_cons (es_if (tv_ne (hu64 hr) (ev_sum (by rfl) (by rfl) T.z_sum (hv_e (ev_frz (nv_lc (by rfl) sc_law.nd (own := ([("at", 9), ("roll", 10)] : List (Str × Nat))) (iv_e (ev_cl hc (ok_best_cuts T) safe_best_cuts (hr.mono (by decide)) (by rfl) T.m_best_cuts T.k_best_cuts T.b_best_cuts (av_cons (vr 3) (av_cons (vr 5) (av_cons (vr 6) av_nil))))) (blkOk_by (N := ["script", "tape", "turn", "size", "other", "some", "sorts", "worth", "begin", "at", "roll", "more", "first", "last", "turned", "far", "wide", "both", "behind", "parted", "my_by", "one", "dear", "great"]) (sc := defScope s_law) (by decide +kernel)) (fun _ _ _ _ _ => (gv_tp (by rfl) (gvs_cons (gv_nm (i := 9) sc_law.nd (by rfl) (by first | exact Or.inl rfl | exact Or.inr rfl)) (gvs_cons (gv_nm (i := 10) sc_law.nd (by rfl) (by first | exact Or.inl rfl | exact Or.inr rfl)) gvs_nil)) (by rfl) (by rfl) (gl_cons (gl_cons gl_nil)))) (fun _ _ _ _ _ => tvs_nil) (fun _ _ _ _ _ => (ev_ix (hu1 hr) hc (hv_e (ev_frz (nv_dict (by rfl) hc (by rfl) T.z_dict (vh 6)))) (vr 10))))))) (vr 7)) (ess_one (es_ret ev_bl)) ess_nil)
    (ess_cons (es_set (i := 11) sc_law.nd (by rfl) (by first | exact Or.inl rfl | exact Or.inr rfl) (ev_tuple (by rfl) T.z_tuple (hv_e (ev_frz (nv_srtSet (by rfl) (hu64 hr) (by rfl) T.z_sorted (by rfl) T.z_set (ev_add (vr 5) (ev_tup (av_cons (ev_tup (av_cons (vr 8) (av_cons (ev_add (ev_add (vr 8) ev_int) (ev_cl hc (ok__law_draw T) safe__law_draw (hr.mono (by decide)) (by rfl) T.m__law_draw T.k__law_draw T.b__law_draw (av_cons (vr 1) (av_cons (ev_sub (vr 3) (vr 8)) av_nil)))) av_nil))) av_nil))))))))
    (ess_cons (es_if (tv_gt (ev_cl hc (ok__law_of T) safe__law_of (hr.mono (by decide)) (by rfl) T.m__law_of T.k__law_of T.b__law_of (av_cons (vr 3) (av_cons (vr 11) (av_cons (vr 6) av_nil)))) (vr 7)) (ess_one (es_ret ev_bl)) ess_nil)
    (ess_cons (es_set (i := 14) sc_law.nd (by rfl) (by first | exact Or.inl rfl | exact Or.inr rfl) (ev_tuple (by rfl) T.z_tuple (hv_e (ev_frz (nv_sortedP (by rfl) T.z_sorted (hv_e (ev_frz (nv_lc (by rfl) sc_law.nd (own := ([("first", 12), ("last", 13)] : List (Str × Nat))) (iv_e (vr 5)) (blkOk_by (N := ["script", "tape", "turn", "size", "other", "some", "sorts", "worth", "begin", "at", "roll", "more", "first", "last", "turned", "far", "wide", "both", "behind", "parted", "my_by", "one", "dear", "great"]) (sc := defScope s_law) (by decide +kernel)) (fun _ _ _ _ _ => (gv_tp (by rfl) (gvs_cons (gv_nm (i := 12) sc_law.nd (by rfl) (by first | exact Or.inl rfl | exact Or.inr rfl)) (gvs_cons (gv_nm (i := 13) sc_law.nd (by rfl) (by first | exact Or.inl rfl | exact Or.inr rfl)) gvs_nil)) (by rfl) (by rfl) (gl_cons (gl_cons gl_nil)))) (fun _ _ _ _ _ => tvs_nil) (fun _ _ _ _ _ => (ev_tup (av_cons (ev_sub (vr 3) (vr 13)) (av_cons (ev_sub (vr 3) (vr 12)) av_nil))))))))))))
    (ess_cons (es_if (tv_ne (hu64 hr) (ev_cl hc (ok__law_of T) safe__law_of (hr.mono (by decide)) (by rfl) T.m__law_of T.k__law_of T.b__law_of (av_cons (vr 3) (av_cons (vr 14) (av_cons (vr 6) av_nil)))) (vr 7)) (ess_one (es_ret ev_bl)) ess_nil)
    (ess_cons (es_set (i := 15) sc_law.nd (by rfl) (by first | exact Or.inl rfl | exact Or.inr rfl) (ev_cl hc (ok__law_flaws T) safe__law_flaws (hr.mono (by decide)) (by rfl) T.m__law_flaws T.k__law_flaws T.b__law_flaws (av_cons (vr 1) (av_cons (vr 4) av_nil))))
    (ess_cons (es_set (i := 16) sc_law.nd (by rfl) (by first | exact Or.inl rfl | exact Or.inr rfl) (ev_add (vr 5) (ev_tuple (by rfl) T.z_tuple (hv_e (ev_frz (nv_lc (by rfl) sc_law.nd (own := ([("first", 12), ("last", 13)] : List (Str × Nat))) (iv_e (vr 15)) (blkOk_by (N := ["script", "tape", "turn", "size", "other", "some", "sorts", "worth", "begin", "at", "roll", "more", "first", "last", "turned", "far", "wide", "both", "behind", "parted", "my_by", "one", "dear", "great"]) (sc := defScope s_law) (by decide +kernel)) (fun _ _ _ _ _ => (gv_tp (by rfl) (gvs_cons (gv_nm (i := 12) sc_law.nd (by rfl) (by first | exact Or.inl rfl | exact Or.inr rfl)) (gvs_cons (gv_nm (i := 13) sc_law.nd (by rfl) (by first | exact Or.inl rfl | exact Or.inr rfl)) gvs_nil)) (by rfl) (by rfl) (gl_cons (gl_cons gl_nil)))) (fun _ _ _ _ _ => tvs_nil) (fun _ _ _ _ _ => (ev_tup (av_cons (ev_add (vr 3) (vr 12)) (av_cons (ev_add (vr 3) (vr 13)) av_nil))))))))))
    (ess_cons (es_set (i := 17) sc_law.nd (by rfl) (by first | exact Or.inl rfl | exact Or.inr rfl) (ev_add (vr 7) (ev_cl hc (ok__law_of T) safe__law_of (hr.mono (by decide)) (by rfl) T.m__law_of T.k__law_of T.b__law_of (av_cons (vr 4) (av_cons (vr 15) (av_cons (vr 6) av_nil))))))
    (ess_cons (es_if (tv_lt (hu0 hr) (ev_cl hc (ok__law_of T) safe__law_of (hr.mono (by decide)) (by rfl) T.m__law_of T.k__law_of T.b__law_of (av_cons (ev_add (vr 3) (vr 4)) (av_cons (vr 16) (av_cons (vr 6) av_nil)))) (vr 17)) (ess_one (es_ret ev_bl)) ess_nil)
    (ess_cons (es_set (i := 18) sc_law.nd (by rfl) (by first | exact Or.inl rfl | exact Or.inr rfl) (ev_tuple (by rfl) T.z_tuple (hv_e (ev_frz (nv_lc (by rfl) sc_law.nd (own := ([("first", 12), ("last", 13)] : List (Str × Nat))) (iv_e (vr 15)) (blkOk_by (N := ["script", "tape", "turn", "size", "other", "some", "sorts", "worth", "begin", "at", "roll", "more", "first", "last", "turned", "far", "wide", "both", "behind", "parted", "my_by", "one", "dear", "great"]) (sc := defScope s_law) (by decide +kernel)) (fun _ _ _ _ _ => (gv_tp (by rfl) (gvs_cons (gv_nm (i := 12) sc_law.nd (by rfl) (by first | exact Or.inl rfl | exact Or.inr rfl)) (gvs_cons (gv_nm (i := 13) sc_law.nd (by rfl) (by first | exact Or.inl rfl | exact Or.inr rfl)) gvs_nil)) (by rfl) (by rfl) (gl_cons (gl_cons gl_nil)))) (fun _ _ _ _ _ => tvs_nil) (fun _ _ _ _ _ => (ev_tup (av_cons (ev_add (ev_add (vr 3) ev_int) (vr 12)) (av_cons (ev_add (ev_add (vr 3) ev_int) (vr 13)) av_nil)))))))))
    (ess_cons (es_set (i := 19) sc_law.nd (by rfl) (by first | exact Or.inl rfl | exact Or.inr rfl) (ev_add (ev_add (vr 5) (ev_tup (av_cons (ev_tup (av_cons (vr 3) (av_cons (ev_add (vr 3) ev_int) av_nil))) av_nil))) (vr 18)))
    (ess_cons (es_if (tv_ne (hu64 hr) (ev_cl hc (ok__law_of T) safe__law_of (hr.mono (by decide)) (by rfl) T.m__law_of T.k__law_of T.b__law_of (av_cons (ev_add (ev_add (vr 3) ev_int) (vr 4)) (av_cons (vr 19) (av_cons (vr 6) av_nil)))) (vr 17)) (ess_one (es_ret ev_bl)) ess_nil)
    (ess_cons (es_if (tv_w (wv_and (tv_gt (ev_len (by rfl) T.z_len (vh 6)) ev_int) (wv_and1 (tv_gt (ev_cl hc (ok__law_of T) safe__law_of (hr.mono (by decide)) (by rfl) T.m__law_of T.k__law_of T.b__law_of (av_cons (vr 3) (av_cons (vr 5) (av_cons (ev_slice (vh 6) (ov_e ev_int) ov_no) av_nil)))) (vr 7))))) (ess_one (es_ret ev_bl)) ess_nil)
    (ess_cons (es_set (i := 20) sc_law.nd (by rfl) (by first | exact Or.inl rfl | exact Or.inr rfl) (ev_add ev_int (ev_cl hc (ok__law_draw T) safe__law_draw (hr.mono (by decide)) (by rfl) T.m__law_draw T.k__law_draw T.b__law_draw (av_cons (vr 1) (av_cons ev_int av_nil)))))
    (ess_cons (es_set (i := 22) sc_law.nd (by rfl) (by first | exact Or.inl rfl | exact Or.inr rfl) (ev_tuple (by rfl) T.z_tuple (hv_e (ev_frz (nv_lc (by rfl) sc_law.nd (own := ([("roll", 10), ("one", 21)] : List (Str × Nat))) (iv_e (vr 6)) (blkOk_by (N := ["script", "tape", "turn", "size", "other", "some", "sorts", "worth", "begin", "at", "roll", "more", "first", "last", "turned", "far", "wide", "both", "behind", "parted", "my_by", "one", "dear", "great"]) (sc := defScope s_law) (by decide +kernel)) (fun _ _ _ _ _ => (gv_tp (by rfl) (gvs_cons (gv_nm (i := 10) sc_law.nd (by rfl) (by first | exact Or.inl rfl | exact Or.inr rfl)) (gvs_cons (gv_nm (i := 21) sc_law.nd (by rfl) (by first | exact Or.inl rfl | exact Or.inr rfl)) gvs_nil)) (by rfl) (by rfl) (gl_cons (gl_cons gl_nil)))) (fun _ _ _ _ _ => tvs_nil) (fun _ _ _ _ _ => (ev_tup (av_cons (vr 10) (av_cons (ev_add ev_int (ev_mod (vr 21) ev_int)) av_nil)))))))))
    (ess_cons (es_set (i := 23) sc_law.nd (by rfl) (by first | exact Or.inl rfl | exact Or.inr rfl) (ev_tuple (by rfl) T.z_tuple (hv_e (ev_frz (nv_lc (by rfl) sc_law.nd (own := ([("roll", 10), ("one", 21)] : List (Str × Nat))) (iv_e (vr 22)) (blkOk_by (N := ["script", "tape", "turn", "size", "other", "some", "sorts", "worth", "begin", "at", "roll", "more", "first", "last", "turned", "far", "wide", "both", "behind", "parted", "my_by", "one", "dear", "great"]) (sc := defScope s_law) (by decide +kernel)) (fun _ _ _ _ _ => (gv_tp (by rfl) (gvs_cons (gv_nm (i := 10) sc_law.nd (by rfl) (by first | exact Or.inl rfl | exact Or.inr rfl)) (gvs_cons (gv_nm (i := 21) sc_law.nd (by rfl) (by first | exact Or.inl rfl | exact Or.inr rfl)) gvs_nil)) (by rfl) (by rfl) (gl_cons (gl_cons gl_nil)))) (fun _ _ _ _ _ => tvs_nil) (fun _ _ _ _ _ => (ev_tup (av_cons (vr 10) (av_cons (ev_mul (vr 21) (vr 20)) av_nil)))))))))
    (ess_one (es_if (tv_ne (hu64 hr) (ev_cl hc (ok__law_of T) safe__law_of (hr.mono (by decide)) (by rfl) T.m__law_of T.k__law_of T.b__law_of (av_cons (vr 3) (av_cons (vr 5) (av_cons (vr 23) av_nil)))) (ev_mul (vr 20) (ev_cl hc (ok__law_of T) safe__law_of (hr.mono (by decide)) (by rfl) T.m__law_of T.k__law_of T.b__law_of (av_cons (vr 3) (av_cons (vr 5) (av_cons (vr 22) av_nil)))))) (ess_one (es_ret ev_bl)) ess_nil))))))))))))))))))))))
    (ess_one (es_ret ev_bl))))
end G

set_option Elab.async false
set_option linter.all false
set_option maxRecDepth 100000
set_option maxHeartbeats 1000000
namespace G
open PySem L2 Fx
theorem draw_ok {n : Nat} {L0 L : Store} {m : Nat} {many : Int} (h : TL n L0 (m + 1) L) (h0 : 0 < many) (h1 : many < 2 ^ 60) : Ok (g__law_draw [.loc n, .int many] L) fun v L' => (∃ i, v = .int i ∧ 0 ≤ i ∧ i < many) ∧ TL n L0 m L' := by
  obtain ⟨ns, a, b, ha, ha2, hn, rfl⟩ := h
  have hg : ∀ c : Cell, (L0.set n c)[n]? = some c := fun c => by simp [hn]
  have t0 : ∀ (kt : Bool) a b, hIx kt (L0.set n (tc ns a b)) (.v (.loc n)) (.int 0) = some (.lst (ns.map PV.int)) := fun kt a b => (tc_ix (hg _)).1
  have t1 : ∀ (kt : Bool) a b, hIx kt (L0.set n (tc ns a b)) (.v (.loc n)) (.int 1) = some (.int a) := fun kt a b => (tc_ix (hg _)).2.1
  have t2 : ∀ (kt : Bool) a b, hIx kt (L0.set n (tc ns a b)) (.v (.loc n)) (.int 2) = some (.int b) := fun kt a b => (tc_ix (hg _)).2.2
  have l1 : Nat.log2 1000003 + a.natAbs.log2 < 1000000 := by
    have q1 : Nat.log2 1000003 < 60 := log2_lt' (by decide) (by decide)
    have q2 : a.natAbs.log2 < 101 := log2_lt' (by decide) (by omega)
    omega
  have l2 : ∀ x : Int, (x % 2305843009213693951).natAbs.log2 + (x % 2305843009213693951).natAbs.log2 < 1000000 := fun x => by have := pmod x; omega
  have l3 : ∀ x : Int, Nat.log2 1181783497276652981 + (x % 2305843009213693951).natAbs.log2 < 1000000 := fun x => by
    have := pmod x
    have q1 : Nat.log2 1181783497276652981 < 64 := log2_lt' (by decide) (by decide)
    omega
  unfold g__law_draw
  rw [ok_def]
  unfold b__law_draw
  simp only [List.map_cons, List.map_nil, List.length_cons, List.length_nil]
  rw [Ok_seqSet]
  simp [List.replicate]
  refine Ok.seqIf (fun s L1 => ∃ c b', s = [.val (.loc n), .val (.int many), .val (.int 2305843009213693951), c, .no] ∧ ∃ a', 0 ≤ a' ∧ a' + (m : Int) ≤ 2 ^ 100 ∧ L1 = L0.set n (tc ns a' b')) ?_ ?_
  · by_cases hb : b < many
    · simp [t2, hb]
      refine Ok.seqIf (fun s L1 => (∃ c, s = [.val (.loc n), .val (.int many), .val (.int 2305843009213693951), .val (.int c), .no]) ∧ L1 = L0.set n (tc ns a b)) ?_ ?_
      · by_cases hl : 0 < ns.length
        · simp [t0, t1, hl]
          have g0 := Int.emod_nonneg a (by omega : (ns.length : Int) ≠ 0)
          have g1 := Int.emod_lt_of_pos a (by omega : (0 : Int) < ns.length)
          obtain ⟨k, hk⟩ := Int.eq_ofNat_of_zero_le g0
          have hk2 : k < ns.length := by omega
          refine ⟨.int ns[k], ?_, _, rfl⟩
          rw [hk]
          exact atI_nat1 (by simp [hk2])
        · simp [t0, t1, hl]
      · rintro s1 L1 ⟨⟨c, rfl⟩, rfl⟩
        refine Ok.seqIf (fun s L1 => (∃ c, s = [.val (.loc n), .val (.int many), .val (.int 2305843009213693951), .val (.int c), .no]) ∧ L1 = L0.set n (tc ns a b)) ?_ ?_
        · by_cases hc : c < 1000000000000000000
          · simp [t0, t1, l1, l2, l3, hc]
          · simp [t0, t1, l1, l2, l3, hc]
        · rintro s1 L1 ⟨⟨c, rfl⟩, rfl⟩
          rw [Ok_seqPutL (n := n) (c := tc ns a b) rfl]
          simp [t1, hg, tc_set1, tc_set2]
          exact ⟨_, _, by omega, by omega, rfl⟩
    · simp [t2, hb]
      exact ⟨_, _, ha, by omega, rfl⟩
  · rintro s1 L1 ⟨c, b', rfl, a', ha', ha3, rfl⟩
    simp [hg, t2, h0]
    rw [Ok_seqPutL (n := n) (c := tc ns a' b') rfl]
    have hlog : many.natAbs.log2 < 9000 := log2_lt' (by decide) (by omega)
    simp [hg, t2, h0, hlog, tc_set2]
    exact ⟨⟨Int.emod_nonneg _ (by omega), Int.emod_lt_of_pos _ h0⟩, ns, a', _, ha', ha3, hn, rfl⟩
end G

set_option Elab.async false
set_option linter.all false
set_option maxRecDepth 100000
set_option maxHeartbeats 1000000
namespace G
open PySem L2 Fx
def cNP (p : NP) : Int × Int := (p.1, p.2)
theorem npP_pv (p : NP) : npP p = pvPair (cNP p) := rfl
/-- a dict whose keys are flaws -/
def DF (n m : Nat) (c : Cell) : Prop := ∃ kvs : List (List Key × PV), c = .dt kvs ∧ kvs.length ≤ m ∧ ∀ kv ∈ kvs, ∃ p : NP, kv.1 = FT.pk (cNP p) ∧ p.1 < p.2 ∧ p.2 ≤ n
theorem DF.put {n m : Nat} {c : Cell} {a b : Nat} {x : PV} (h : DF n m c) (hm : m < 1000) (h1 : a < b) (h2 : b ≤ n) : ∃ c', setC false c (.tup [.int a, .int b]) x = some c' ∧ DF n (m + 1) c' := by
  obtain ⟨kvs, rfl, hl, hk⟩ := h
  have hz : kvs.length < sizeLine := Nat.lt_of_le_of_lt (by omega : kvs.length ≤ 1000) (by decide)
  refine ⟨.dt (Fx.put kvs (FT.pk (cNP (a, b))) x), ?_, _, rfl, ?_, ?_⟩
  · show (if (false = false ∧ [PV.int a, PV.int b].isEmpty = false) ∧ kvs.length < sizeLine then (keysOf [.int a, .int b]).map fun k => Cell.dt (Fx.put kvs k x) else none) = _
    rw [if_pos ⟨⟨rfl, rfl⟩, hz⟩]
    rfl
  · unfold Fx.put
    split
    · rw [List.length_map]; omega
    · simp; omega
  · intro kv hkv
    unfold Fx.put at hkv
    split at hkv
    · obtain ⟨y, hy, rfl⟩ := List.mem_map.mp hkv
      obtain ⟨p, q1, q2⟩ := hk y hy
      refine ⟨p, ?_, q2⟩
      split <;> simpa using q1
    · rcases List.mem_append.mp hkv with e | e
      · exact hk kv e
      · simp at e
        subst e
        exact ⟨(a, b), rfl, h1, h2⟩
theorem DF.sorted {n m : Nat} {c : Cell} {L : Store} (h : DF n m c) (hm : m ≤ 1000) : ∃ fs : List NP, nSortedK L (.o c) = some (.lst (fs.map npP)) ∧ FlOk n fs ∧ fs.length ≤ m := by
  obtain ⟨kvs, rfl, hl, hk⟩ := h
  obtain ⟨ks, hks, hk2⟩ : ∃ ks : List NP, kvs.map (·.1) = ks.map (fun p => FT.pk (cNP p)) ∧ ∀ p ∈ ks, p.1 < p.2 ∧ p.2 ≤ n := by
    clear hl
    induction kvs with
    | nil => exact ⟨[], rfl, by simp⟩
    | cons kv kvs ih =>
      obtain ⟨ks, e, h1⟩ := ih fun x hx => hk x (by simp [hx])
      obtain ⟨p, q1, q2⟩ := hk kv (by simp)
      refine ⟨p :: ks, by simp [e, q1], fun x hx => ?_⟩
      rcases List.mem_cons.mp hx with z | z
      · rw [z]; exact q2
      · exact h1 x z
  have hlen : ks.length = kvs.length := by simpa using (congrArg List.length hks).symm
  have hpk : pairKeys (kvs.map (·.1)) = some (ks.map cNP) := by
    rw [hks]
    have := pairKeys_map (ks.map cNP)
    rw [List.map_map] at this
    exact this
  let fs : List NP := (sortPr (ks.map cNP)).map fun p => (p.1.toNat, p.2.toNat)
  have hmem : ∀ p ∈ sortPr (ks.map cNP), ∃ q ∈ ks, cNP q = p := fun p hp => by
    have := (sortPr_perm (ks.map cNP)).mem_iff.mp hp
    obtain ⟨q, h1, h2⟩ := List.mem_map.mp this
    exact ⟨q, h1, h2⟩
  have hback : fs.map cNP = sortPr (ks.map cNP) := by
    show ((sortPr (ks.map cNP)).map fun p => (p.1.toNat, p.2.toNat)).map cNP = _
    rw [List.map_map]
    conv => rhs; rw [← List.map_id (sortPr (ks.map cNP))]
    refine List.map_congr_left fun p hp => ?_
    obtain ⟨q, _, rfl⟩ := hmem p hp
    simp [cNP]
  refine ⟨fs, ?_, ⟨?_, ?_⟩, ?_⟩
  · unfold nSortedK
    rw [view_odt]
    dsimp only
    rw [hpk]
    show (if (ks.map cNP).length ≤ sizeLine then some (Cell.lst ((sortPr (ks.map cNP)).map pvPair)) else none) = _
    rw [if_pos (Nat.le_trans (by rw [List.length_map]; omega : _ ≤ 1000) (by decide)), ← hback, List.map_map]
    rfl
  · have hs := sortPr_sorted (ks.map cNP)
    rw [← hback, List.pairwise_map] at hs
    refine hs.imp fun {a b} h => ?_
    unfold FT.leP cNP at h
    omega
  · intro p hp
    have : cNP p ∈ sortPr (ks.map cNP) := by rw [← hback]; exact List.mem_map.mpr ⟨p, hp, rfl⟩
    obtain ⟨q, hq, e⟩ := hmem _ this
    have e2 : q = p := by
      unfold cNP at e
      have e1 := (Prod.mk.inj e).1
      have e2 := (Prod.mk.inj e).2
      exact Prod.ext (by omega) (by omega)
    rw [← e2]
    exact hk2 q hq
  · have h1 : (fs.map cNP).length = fs.length := List.length_map _
    have h2 := (sortPr_perm (ks.map cNP)).length_eq
    have h3 : (ks.map cNP).length = ks.length := List.length_map _
    have := congrArg List.length hback
    omega
theorem flaws_gen {k : Nat} {L0 L : Store} {m n : Nat} (hn : 0 < n) (hn2 : n ≤ 100000) (h : TL k L0 (m + 18) L) : Ok (g__law_flaws [.loc k, .int n] L) fun v L' => (∃ fs, v = .tup (fs.map npP) ∧ FlOk n fs ∧ fs.length ≤ 8) ∧ TL k L0 m L' := by
  unfold g__law_flaws
  rw [ok_def]
  unfold b__law_flaws
  have z2 : 2 ≤ sizeLine := by decide
  simp
  rw [Ok_seq]
  simp [z2]
  refine (draw_ok (m := m + 17) h (by decide) (by decide)).imp ?_
  rintro v L1 ⟨⟨i, rfl, h0, h1⟩, hT⟩
  obtain ⟨x, hx, e⟩ := ix_mem (xs := [PV.int 3, .int 9]) h0 (by simpa using h1)
  obtain ⟨y, rfl, hy⟩ : ∃ y : Int, x = .int y ∧ 0 < y ∧ y ≤ 9 := by
    simp at hx
    rcases hx with rfl | rfl <;> exact ⟨_, rfl, by decide, by decide⟩
  simp [e]
  refine (draw_ok (m := m + 16) hT hy.1 (by omega)).imp ?_
  rintro v L2 ⟨⟨j, rfl, j0, j1⟩, hT⟩
  have j2 : j < 4611686018427387904 := by omega
  have j3 : (-4611686018427387904 : Int) ≤ j := by omega
  simp [j2, j3]
  refine ok_loop (fun r s L => r.length ≤ 8 ∧ TL k L0 (m + 2 * r.length) L ∧ ∃ c y z, s = [.val (.loc k), .val (.int n), .own c, y, z] ∧ DF n (8 - r.length) c) ?_ ?_ _ _ _ ?_
  · rintro x r s L ⟨hl, hT, c, y, z, rfl, hc⟩
    refine ⟨_, rfl, ?_⟩
    rw [List.length_cons] at hT hl hc
    rw [Ok_seqSet]
    simp
    refine (draw_ok (m := m + 2 * r.length + 1) (hT.mono (by omega)) (by omega) (by omega)).imp ?_
    rintro v L1 ⟨⟨a, rfl, a0, a1⟩, hT⟩
    obtain ⟨a, rfl⟩ := Int.eq_ofNat_of_zero_le a0
    have hmin : ∃ w : Int, (if (n : Int) - (a : Int) < 9 then (n : Int) - (a : Int) else 9) = w ∧ 0 < w ∧ w ≤ n - a ∧ w ≤ 9 := by
      refine ⟨_, rfl, ?_⟩
      split <;> omega
    obtain ⟨w, ew, w0, w1, w2⟩ := hmin
    simp [z2, ew]
    refine (draw_ok (m := m + 2 * r.length) hT w0 (by omega)).imp ?_
    rintro v L2 ⟨⟨b, rfl, b0, b1⟩, hT⟩
    obtain ⟨b, rfl⟩ := Int.eq_ofNat_of_zero_le b0
    obtain ⟨c', e1, hc'⟩ := hc.put (a := a) (b := a + 1 + b) (x := .bl true) (by omega) (by omega) (by omega)
    have e2 : (((a + 1 + b : Nat) : Int)) = (a : Int) + 1 + (b : Int) := by omega
    rw [e2] at e1
    simp [e1]
    refine ⟨by omega, hT, ?_⟩
    have e3 : 8 - (r.length + 1) + 1 = 8 - r.length := by omega
    rw [e3] at hc'
    exact hc'
  · rintro s L ⟨_, hT, c, y, z, rfl, hc⟩
    obtain ⟨fs, q1, q2, q3⟩ := hc.sorted (L := L) (by simp)
    simp [q1]
    exact ⟨⟨fs, rfl, q2, by simpa using q3⟩, by simpa using hT⟩
  · have hl : (rgItems 0 j.toNat).length = j.toNat := by simp [rgItems]
    rw [hl]
    exact ⟨by omega, hT.mono (by omega), _, _, _, rfl, [], rfl, by simp, by simp⟩
end G

set_option Elab.async false
set_option linter.all false
set_option maxRecDepth 100000
set_option maxHeartbeats 1000000
namespace G
open PySem L2 Fx
theorem np_cast : ∀ (ys : List (Int × Int)) (fs : List NP), (∀ y ∈ ys, y ∈ fs.map cNP) → ∃ fs' : List NP, ys = fs'.map cNP ∧ ∀ p ∈ fs', p ∈ fs
  | [], _, _ => ⟨[], rfl, fun _ h => nomatch h⟩
  | y :: ys, fs, h => by
    obtain ⟨p, hp, e⟩ := List.mem_map.mp (h y (by simp))
    obtain ⟨fs', e2, h2⟩ := np_cast ys fs fun z hz => h z (by simp [hz])
    refine ⟨p :: fs', by rw [← e, e2]; rfl, fun q hq => ?_⟩
    rcases List.mem_cons.mp hq with r | r
    · rw [r]; exact hp
    · exact h2 q r
theorem cNP_inj {p q : NP} (h : cNP p = cNP q) : p = q := by
  have h1 : (p.1 : Int) = q.1 := congrArg Prod.fst h
  have h2 : (p.2 : Int) = q.2 := congrArg Prod.snd h
  exact Prod.ext (by omega) (by omega)
theorem np_pv (fs : List NP) : fs.map npP = (fs.map cNP).map pvPair := by rw [List.map_map]; rfl
theorem leP_pw {fs' : List NP} (h : (fs'.map cNP).Pairwise FT.leP) : fs'.Pairwise fun a b => a.1 ≤ b.1 := by
  rw [List.pairwise_map] at h
  refine h.imp fun {a b} q => ?_
  have q : (a.1 : Int) < b.1 ∨ ((a.1 : Int) = b.1 ∧ (a.2 : Int) ≤ b.2) := q
  omega
theorem srtSet_ok {fs : List NP} (hl : fs.length < 64) : ∃ fs' : List NP, hSrtSet (.tup (fs.map npP)) = some (.lst (fs'.map npP)) ∧ (∀ p, p ∈ fs' ↔ p ∈ fs) ∧ fs'.Pairwise (fun a b => a.1 ≤ b.1) ∧ fs'.length ≤ fs.length := by
  have hm : ∀ y, y ∈ sortPr (onceP (fs.map cNP)) ↔ y ∈ fs.map cNP := fun y => (sortPr_perm _).mem_iff.trans mem_once
  obtain ⟨fs', e, h1⟩ := np_cast (sortPr (onceP (fs.map cNP))) fs fun y hy => (hm y).mp hy
  refine ⟨fs', ?_, fun p => ⟨h1 p, fun hp => ?_⟩, leP_pw (by rw [← e]; exact sortPr_sorted _), ?_⟩
  · unfold hSrtSet
    dsimp only
    rw [np_pv, pairInts_map]
    dsimp only [Option.bind]
    rw [if_pos ⟨by rw [List.length_map]; exact hl, List.all_eq_true.mpr fun y hy => by
      obtain ⟨p, _, rfl⟩ := List.mem_map.mp hy
      exact decide_eq_true ⟨Int.natCast_nonneg p.1, Int.natCast_nonneg p.2⟩⟩, e, np_pv]
  · have := (hm (cNP p)).mpr (List.mem_map_of_mem hp)
    rw [e] at this
    obtain ⟨q, hq, e2⟩ := List.mem_map.mp this
    rw [← cNP_inj e2]
    exact hq
  · have h2 := congrArg List.length e
    have h3 := (sortPr_perm (onceP (fs.map cNP))).length_eq
    have h4 := once_len (fs.map cNP)
    rw [List.length_map] at h2 h4
    omega
theorem sortedP_ok {L : Store} (fs : List NP) : ∃ fs' : List NP, nSortedP L (.v (.lst (fs.map npP))) = some (.lst (fs'.map npP)) ∧ (∀ p, p ∈ fs' ↔ p ∈ fs) ∧ fs'.Pairwise (fun a b => a.1 ≤ b.1) ∧ fs'.length = fs.length := by
  have hm : ∀ y, y ∈ sortPr (fs.map cNP) ↔ y ∈ fs.map cNP := fun y => (sortPr_perm _).mem_iff
  obtain ⟨fs', e, h1⟩ := np_cast (sortPr (fs.map cNP)) fs fun y hy => (hm y).mp hy
  refine ⟨fs', ?_, fun p => ⟨h1 p, fun hp => ?_⟩, leP_pw (by rw [← e]; exact sortPr_sorted _), ?_⟩
  · show (pairInts (fs.map npP)).map (fun ks => Cell.lst ((sortPr ks).map pvPair)) = _
    rw [np_pv, pairInts_map, Option.map_some, e, np_pv]
  · have := (hm (cNP p)).mpr (List.mem_map_of_mem hp)
    rw [e] at this
    obtain ⟨q, hq, e2⟩ := List.mem_map.mp this
    rw [← cNP_inj e2]
    exact hq
  · have h2 := congrArg List.length e
    have h3 := (sortPr_perm (fs.map cNP)).length_eq
    rw [List.length_map] at h2 h3
    omega
theorem badB_mono {fs fs' : List NP} (h : ∀ p ∈ fs, p ∈ fs') (x : Nat) (hb : badB fs x = true) : badB fs' x = true := by
  obtain ⟨p, hp, q⟩ := badB_iff.mp hb
  exact badB_iff.mpr ⟨p, h p hp, q⟩
theorem badB_same {fs fs' : List NP} (h : ∀ p, p ∈ fs' ↔ p ∈ fs) (x : Nat) : badB fs' x = badB fs x := by
  rw [Bool.eq_iff_iff]
  exact ⟨badB_mono (fun p hp => (h p).mp hp) x, badB_mono (fun p hp => (h p).mpr hp) x⟩
theorem badB_app (A B : List NP) (x : Nat) : badB (A ++ B) x = (badB A x || badB B x) := List.any_append
/-- turned about -/
def turnL (n : Nat) (fs : List NP) : List NP := fs.map fun p => (n - p.2, n - p.1)
theorem turn_bad {n : Nat} {fs : List NP} (hf : ∀ p ∈ fs, p.1 < p.2 ∧ p.2 ≤ n) {x : Nat} (hx : x < n) : badB (turnL n fs) x = badB fs (n - 1 - x) := by
  rw [Bool.eq_iff_iff, badB_iff, badB_iff]
  constructor
  · rintro ⟨q, hq, h1, h2⟩
    obtain ⟨p, hp, rfl⟩ := List.mem_map.mp hq
    have := hf p hp
    dsimp only at h1 h2
    exact ⟨p, hp, by omega, by omega⟩
  · rintro ⟨p, hp, h1, h2⟩
    have := hf p hp
    exact ⟨_, List.mem_map_of_mem hp, by dsimp only; omega, by dsimp only; omega⟩
theorem turn_ok {n : Nat} {fs : List NP} (hf : ∀ p ∈ fs, p.1 < p.2 ∧ p.2 ≤ n) : ∀ p ∈ turnL n fs, p.1 < p.2 ∧ p.2 ≤ n := fun q hq => by
  obtain ⟨p, hp, rfl⟩ := List.mem_map.mp hq
  have := hf p hp
  dsimp only
  omega
def shiftL (k : Nat) (fs : List NP) : List NP := fs.map fun p => (k + p.1, k + p.2)
theorem shift_bad (k : Nat) (fs : List NP) (x : Nat) : badB (shiftL k fs) (k + x) = badB fs x := by
  rw [Bool.eq_iff_iff, badB_iff, badB_iff]
  constructor
  · rintro ⟨q, hq, h1, h2⟩
    obtain ⟨p, hp, rfl⟩ := List.mem_map.mp hq
    exact ⟨p, hp, by dsimp only at h1; omega, by dsimp only at h2; omega⟩
  · rintro ⟨p, hp, h1, h2⟩
    exact ⟨_, List.mem_map_of_mem hp, by dsimp only; omega, by dsimp only; omega⟩
theorem shift_low (k : Nat) (fs : List NP) {x : Nat} (h : x < k) : badB (shiftL k fs) x = false := by
  rw [← Bool.not_eq_true, badB_iff]
  rintro ⟨q, hq, h1, h2⟩
  obtain ⟨p, hp, rfl⟩ := List.mem_map.mp hq
  dsimp only at h1
  omega
theorem high_bad {n : Nat} {fs : List NP} (hf : ∀ p ∈ fs, p.1 < p.2 ∧ p.2 ≤ n) {x : Nat} (h : n ≤ x) : badB fs x = false := by
  rw [← Bool.not_eq_true, badB_iff]
  rintro ⟨p, hp, h1, h2⟩
  have := hf p hp
  omega
theorem wide_bad {n1 : Nat} {fs far : List NP} (hf : ∀ p ∈ fs, p.1 < p.2 ∧ p.2 ≤ n1) : (∀ x, x < n1 → badB (fs ++ shiftL n1 far) x = badB fs x) ∧ ∀ x, badB (fs ++ shiftL n1 far) (n1 + 0 + x) = badB far x :=
  ⟨fun x hx => by rw [badB_app, shift_low _ _ hx, Bool.or_false], fun x => by rw [badB_app, high_bad hf (by omega), Nat.add_zero, shift_bad, Bool.false_or]⟩
theorem part_bad {n1 : Nat} {fs far : List NP} (hf : ∀ p ∈ fs, p.1 < p.2 ∧ p.2 ≤ n1) :
    (∀ x, x < n1 → badB (fs ++ [(n1, n1 + 1)] ++ shiftL (n1 + 1) far) x = badB fs x) ∧ (∀ x, n1 ≤ x → x < n1 + 1 → badB (fs ++ [(n1, n1 + 1)] ++ shiftL (n1 + 1) far) x = true) ∧ ∀ x, badB (fs ++ [(n1, n1 + 1)] ++ shiftL (n1 + 1) far) (n1 + 1 + x) = badB far x := by
  have mid : ∀ x, badB [(n1, n1 + 1)] x = (decide (n1 ≤ x) && decide (x < n1 + 1)) := fun x => by unfold badB; simp
  refine ⟨fun x hx => ?_, fun x h1 h2 => ?_, fun x => ?_⟩
  · rw [badB_app, badB_app, mid, shift_low _ _ (by omega), Bool.or_false, decide_eq_false (by omega), Bool.false_and, Bool.or_false]
  · rw [badB_app, badB_app, mid, decide_eq_true h1, decide_eq_true h2, Bool.and_true, Bool.or_true, Bool.true_or]
  · rw [badB_app, badB_app, mid, shift_bad, high_bad hf (by omega), decide_eq_false (p := n1 + 1 + x < n1 + 1) (by omega), Bool.and_false, Bool.or_false, Bool.false_or]
theorem shift_ok {k n : Nat} {far : List NP} (h : FlOk n far) : FlOk (k + n) (shiftL k far) := by
  refine ⟨List.pairwise_map.mpr (h.1.imp fun {a b} q => by dsimp only; omega), fun q hq => ?_⟩
  obtain ⟨p, hp, rfl⟩ := List.mem_map.mp hq
  have := h.2 p hp
  dsimp only
  omega
theorem app_ok {n N : Nat} {A B : List NP} (hA : FlOk n A) (hB : FlOk N B) (hn : n ≤ N) (hlo : ∀ p ∈ B, n ≤ p.1) : FlOk N (A ++ B) := by
  refine ⟨List.pairwise_append.mpr ⟨hA.1, hB.1, fun a ha b hb => ?_⟩, fun p hp => ?_⟩
  · have := hA.2 a ha
    have := hlo b hb
    omega
  · rcases List.mem_append.mp hp with h | h
    · have := hA.2 p h; omega
    · exact hB.2 p h
theorem shift_lo {k : Nat} {far : List NP} : ∀ p ∈ shiftL k far, k ≤ p.1 := fun q hq => by
  obtain ⟨p, _, rfl⟩ := List.mem_map.mp hq
  dsimp only
  omega
theorem wide_ok {n1 n2 : Nat} {fs far : List NP} (hf : FlOk n1 fs) (hg : FlOk n2 far) : FlOk (n1 + n2) (fs ++ shiftL n1 far) := app_ok hf (shift_ok hg) (by omega) shift_lo
theorem part_ok {n1 n2 : Nat} {fs far : List NP} (hf : FlOk n1 fs) (hg : FlOk n2 far) : FlOk (n1 + 1 + n2) (fs ++ [(n1, n1 + 1)] ++ shiftL (n1 + 1) far) := by
  refine app_ok (n := n1 + 1) (app_ok hf ⟨List.pairwise_singleton _ _, fun p hp => ?_⟩ (by omega) fun p hp => ?_) (shift_ok hg) (by omega) shift_lo
  · rw [List.mem_singleton.mp hp]; dsimp only; omega
  · rw [List.mem_singleton.mp hp]; exact Nat.le_refl _
end G

set_option Elab.async false
set_option linter.all false
set_option maxRecDepth 100000
set_option maxHeartbeats 1000000
namespace G
open PySem L2 Fx
def eP (e : En) : PV := .tup [.int e.1, match e.2 with
  | none => .non
  | some r => .int r]
theorem eP_ix0 {kt : Bool} {L : Store} {e : En} : hIx kt L (.v (eP e)) (.int 0) = some (.int e.1) := by
  unfold eP
  rw [hIx_t]
  exact atI_0
theorem eP_ix1 {kt : Bool} {L : Store} {e : En} : hIx kt L (.v (eP e)) (.int 1) = some (match e.2 with
  | none => .non
  | some r => .int r) := by
  unfold eP
  rw [hIx_t]
  exact atI_1
/-- the table as a dict -/
def msE (n : Nat) (R : List En) : List (Int × En) := (List.range R.length).map fun (i : Nat) => ((n : Int) - (i : Int), R.getD i eD)
theorem msE_keys (n : Nat) (R : List En) : (msE n R).map (·.1) = (List.range R.length).map fun (i : Nat) => (n : Int) - (i : Int) := by
  unfold msE
  rw [List.map_map]
  rfl
theorem msE_nodup (n : Nat) (R : List En) : ((msE n R).map (·.1)).Nodup := by
  rw [msE_keys]
  refine List.Pairwise.map _ (fun a b (h : a ≠ b) => ?_) List.nodup_range
  omega
theorem msE_snoc (n : Nat) (R : List En) (e : En) : putI (msE n R) ((n : Int) - (R.length : Int)) e = msE n (R ++ [e]) := by
  have hk : ((msE n R).any fun r => decide (r.1 = (n : Int) - (R.length : Int))) = false := by
    rw [List.any_eq_false]
    intro r hr
    obtain ⟨i, hi, rfl⟩ := List.mem_map.mp hr
    have := List.mem_range.mp hi
    simp
    omega
  unfold putI
  rw [hk]
  rw [if_neg Bool.false_ne_true]
  unfold msE
  rw [List.length_append, List.length_singleton, List.range_succ, List.map_append]
  congr 1
  · refine List.map_congr_left fun i hi => ?_
    have := List.mem_range.mp hi
    simp only [List.getD_eq_getElem?_getD]
    rw [List.getElem?_append_left this]
  · simp
theorem msE_look {n : Nat} {R : List En} {x : Nat} (h1 : x ≤ n) (h2 : n - x < R.length) : look (kvI eP (msE n R)) (.inl (x : Int)) = some (eP (R.getD (n - x) eD)) := by
  have := look_memI (f := eP) (msE_nodup n R) ((x : Int), R.getD (n - x) eD) (List.mem_map.mpr ⟨n - x, List.mem_range.mpr h2, by
    have : (n : Int) - ((n - x : Nat) : Int) = (x : Int) := by omega
    rw [this]⟩)
  exact this
theorem msE_ixO {kt : Bool} {L : Store} {n : Nat} {R : List En} {x : Nat} (h1 : x ≤ n) (h2 : n - x < R.length) : hIx kt L (.o (.dk (kvI eP (msE n R)))) (.int (x : Int)) = some (eP (R.getD (n - x) eD)) := by
  have hd : dLook' kt (.dk (kvI eP (msE n R))) (.int (x : Int)) = some (some (eP (R.getD (n - x) eD))) := by
    show some (look (kvI eP (msE n R)) (.inl (x : Int))) = _
    rw [msE_look h1 h2]
  unfold hIx
  rw [view_odk]
  show (match dLook' kt (.dk (kvI eP (msE n R))) (.int (x : Int)) with
    | some (some v) => some v
    | _ => none) = _
  rw [hd]
/-- the dict as a value -/
def tabP (n : Nat) (R : List En) : PV := .dk ((kvI eP (msE n R)).map (·.1)) ((kvI eP (msE n R)).map (·.2))
theorem zip_fs {α β : Type} : ∀ l : List (α × β), (l.map (·.1)).zip (l.map (·.2)) = l
  | [] => rfl
  | x :: l => by rw [List.map_cons, List.map_cons, List.zip_cons_cons, zip_fs l]
theorem msE_ixV {kt : Bool} {L : Store} {n : Nat} {R : List En} {x : Nat} (h1 : x ≤ n) (h2 : n - x < R.length) : hIx kt L (.v (tabP n R)) (.int (x : Int)) = some (eP (R.getD (n - x) eD)) := by
  have hv : view L (.v (tabP n R)) = some (.dk (kvI eP (msE n R))) := by
    show some (Vw.dk (((kvI eP (msE n R)).map (·.1)).zip ((kvI eP (msE n R)).map (·.2)))) = _
    rw [zip_fs]
  have hd : dLook' kt (.dk (kvI eP (msE n R))) (.int (x : Int)) = some (some (eP (R.getD (n - x) eD))) := by
    show some (look (kvI eP (msE n R)) (.inl (x : Int))) = _
    rw [msE_look h1 h2]
  unfold hIx
  rw [hv]
  show (match dLook' kt (.dk (kvI eP (msE n R))) (.int (x : Int)) with
    | some (some v) => some v
    | _ => none) = _
  rw [hd]
end G

set_option Elab.async false
set_option linter.all false
set_option maxRecDepth 100000
set_option maxHeartbeats 1000000
namespace G
open PySem L2 Fx
theorem fits_ok {L : Store} {S : List NP} {b r : Int} (hS : S.length ≤ 2000) : g_fits [.lst (S.map npP), .int b, .int r] L = some (.ok (.bl (S.any fun p => decide ((p.1 : Int) ≤ b) && decide (b + r ≤ (p.2 : Int)))) L) := by
  refine Ok.eq ?_
  unfold g_fits
  rw [ok_def]
  unfold b_fits
  have hz : S.length ≤ sizeLine := Nat.le_trans hS (by decide)
  have hc := comp_srcY (t := gTp (gCns (gNm 3) (gCns (gNm 4) gNls))) (g := eAnd (eOp hLe (eVar 3) (eVar 1)) (eOp hLe (eOp hAdd (eVar 1) (eVar 2)) (eVar 4))) (s := [.val (.lst (S.map npP)), .val (.int b), .val (.int r), .no, .no]) (L := L) (f := npP)
    (fun p => .bl (decide ((p.1 : Int) ≤ b) && decide (b + r ≤ (p.2 : Int)))) (xs := S) (fun p hp => ⟨_, rfl, by
      refine Ok.eq ?_
      by_cases h1 : (p.1 : Int) ≤ b <;> simp [h1]⟩) hz
  have ha : hAny L (.v (.lst (S.map fun p => PV.bl (decide ((p.1 : Int) ≤ b) && decide (b + r ≤ (p.2 : Int)))))) = some (.bl (S.any fun p => decide ((p.1 : Int) ≤ b) && decide (b + r ≤ (p.2 : Int)))) := by
    show (blsOf (S.map fun p => PV.bl _)).map (fun bs => PV.bl (bs.any _root_.id)) = _
    rw [blsOf_map]
    simp [Function.comp_def]
  simp [hc, ha]
/-- on the clear stretches of a reel -/
theorem fits_clear {L : Store} {n : Nat} {fs : List NP} (h : FlOk n fs) (hl : fs.length ≤ 1000) (hS : (clearL n fs).length ≤ 2000) {b r : Nat} (hr : 0 < r) : g_fits [.lst ((clearL n fs).map npP), .int b, .int r] L = some (.ok (.bl (decide (b + r ≤ n) && (List.range' b r).all fun x => !badB fs x)) L) := by
  rw [fits_ok hS]
  have e : ((clearL n fs).any fun p => decide ((p.1 : Int) ≤ (b : Int)) && decide ((b : Int) + (r : Int) ≤ (p.2 : Int))) = (decide (b + r ≤ n) && (List.range' b r).all fun x => !badB fs x) := by
    have h1 := fits_spec h (b := b) hr
    have e1 : ((clearL n fs).any fun p => decide ((p.1 : Int) ≤ (b : Int)) && decide ((b : Int) + (r : Int) ≤ (p.2 : Int))) = ((clearL n fs).any fun p => decide (p.1 ≤ b) && decide (b + r ≤ p.2)) := by
      congr 1
      funext p
      congr 1
      · exact decide_eq_decide.mpr (by omega)
      · exact decide_eq_decide.mpr (by omega)
    rw [e1, Bool.eq_iff_iff, h1, Bool.and_eq_true, decide_eq_true_eq, List.all_eq_true]
    constructor
    · rintro ⟨a, c⟩
      refine ⟨a, fun x hx => ?_⟩
      have := List.mem_range'_1.mp hx
      rw [c x this.1 this.2]
      rfl
    · rintro ⟨a, c⟩
      refine ⟨a, fun x h1 h2 => ?_⟩
      have := c x (List.mem_range'_1.mpr ⟨h1, h2⟩)
      simpa using this
  rw [e]
end G

set_option Elab.async false
set_option linter.all false
set_option maxRecDepth 100000
set_option maxHeartbeats 1000000
namespace G
open PySem L2 Fx
theorem clr_len : ∀ (fs : List NP) (st : List NP × Nat), (fs.foldl clrF st).1.length ≤ st.1.length + fs.length
  | [], st => by simp
  | p :: fs, st => by
    have h := clr_len fs (clrF st p)
    have : (clrF st p).1.length ≤ st.1.length + 1 := by unfold clrF; dsimp only; split <;> simp
    rw [List.foldl_cons, List.length_cons]
    omega
theorem clear_len (n : Nat) (fs : List NP) : (clearL n fs).length ≤ fs.length + 1 := by
  have := clr_len fs ([], 0)
  unfold clearL
  split <;> simp at * <;> omega
def ClrJ (n : Nat) (fs : List NP) (L : Store) (r : List PV) (s : Slots) (L' : Store) : Prop := L' = L ∧ ∃ ps qs y z, fs = ps ++ qs ∧ r = qs.map npP ∧ s = [.val (.int n), .val (.tup (fs.map npP)), .own (.lst ((ps.foldl clrF ([], 0)).1.map npP)), .val (.int (ps.foldl clrF ([], 0)).2), y, z]
theorem clear_ok {L : Store} {n : Nat} {fs : List NP} (hf : fs.length ≤ 1000) : g_clear [.int n, .tup (fs.map npP)] L = some (.ok (.lst ((clearL n fs).map npP)) L) := by
  refine Ok.eq ?_
  unfold g_clear
  rw [ok_def]
  unfold b_clear
  have z2 : 2 ≤ sizeLine := by decide
  have hz : 2000 < sizeLine := by decide
  simp
  refine Ok.seq (S := fun w L' => L' = L ∧ ∃ y z, w = .nx [.val (.int n), .val (.tup (fs.map npP)), .own (.lst ((fs.foldl clrF ([], 0)).1.map npP)), .val (.int (fs.foldl clrF ([], 0)).2), y, z]) ?_ ?_
  · simp
    refine ok_loop (ClrJ n fs L) ?_ ?_ _ _ _ ?_
    · rintro x r s L' ⟨rfl, ps, qs, y, z, hfs, hr, rfl⟩
      cases qs with
      | nil => cases hr
      | cons q qs =>
        obtain ⟨rfl, rfl⟩ := List.cons.inj hr
        refine ⟨_, rfl, ?_⟩
        have hl := clr_len ps ([], 0)
        have hps : ps.length ≤ fs.length := by rw [hfs]; simp
        have hfold : (ps ++ [q]).foldl clrF ([], 0) = clrF (ps.foldl clrF ([], 0)) q := by rw [List.foldl_append]; rfl
        generalize ps.foldl clrF ([], 0) = st at *
        have hsz : st.1.length < sizeLine := Nat.lt_of_le_of_lt (by simp at hl; omega) hz
        have hmax : (if st.2 < q.2 then (q.2 : Int) else (st.2 : Int)) = ((max st.2 q.2 : Nat) : Int) := by split <;> omega
        have fin : ClrJ n fs L' (qs.map npP) [.val (.int n), .val (.tup (fs.map npP)), .own (.lst ((clrF st q).1.map npP)), .val (.int ((max st.2 q.2 : Nat) : Int)), .val (.int q.1), .val (.int q.2)] L' := ⟨rfl, ps ++ [q], qs, _, _, by simp [hfs], rfl, by rw [hfold]; rfl⟩
        refine Ok.seqIf (fun s L2 => L2 = L' ∧ s = [.val (.int n), .val (.tup (fs.map npP)), .own (.lst ((clrF st q).1.map npP)), .val (.int st.2), .val (.int q.1), .val (.int q.2)]) ?_ ?_
        · by_cases c : st.2 < q.1
          · simp [c, z2, hsz, clrF, npP]
          · simp [c, clrF]
        · rintro s1 L2 ⟨rfl, rfl⟩
          simp
          rw [hmax]
          exact fin
    · rintro s L' ⟨rfl, ps, qs, y, z, hfs, hr, rfl⟩
      have : qs = [] := List.map_eq_nil_iff.mp hr.symm
      subst this
      rw [List.append_nil] at hfs
      subst hfs
      exact ⟨rfl, y, z, rfl⟩
    · exact ⟨rfl, [], fs, _, _, rfl, rfl, rfl⟩
  · rintro w L' ⟨rfl, y, z, rfl⟩
    dsimp only
    have hl := clr_len fs ([], 0)
    unfold clearL
    generalize fs.foldl clrF ([], 0) = st at *
    have hsz : st.1.length < sizeLine := Nat.lt_of_le_of_lt (by simp at hl; omega) hz
    refine Ok.seqIf (fun s L2 => L2 = L' ∧ s = [.val (.int n), .val (.tup (fs.map npP)), .own (.lst ((if st.2 < n then st.1 ++ [(st.2, n)] else st.1).map npP)), .val (.int st.2), y, z]) ?_ ?_
    · by_cases c : st.2 < n
      · simp [c, z2, hsz, npP]
      · simp [c]
    · rintro s1 L2 ⟨rfl, rfl⟩
      simp
end G

set_option Elab.async false
set_option linter.all false
set_option maxRecDepth 100000
set_option maxHeartbeats 1000000
namespace G
open PySem L2 Fx
section
variable {n : Nat} {fs ws : List NP} {L : Store}
theorem want_loop {R : List En} {p : Nat} (hf : FlOk n fs) (hfl : fs.length ≤ 1000) (hp : p < n) (hR : n - p ≤ R.length) {x5 : SV} : ∀ (vs : List NP) (b : En) (y8 y9 : SV), (∀ w ∈ vs, 0 < w.1) → ∃ y8' y9',
    fLoop (gTp (gCns (gNm 8) (gCns (gNm 9) gNls))) (sIf (bAnd (bB (eCall 3 g_fits (aCons (eVar 3) (aCons (eVar 6) (aCons (eVar 8) aNil))) [])) (bB (eOp hGt (eOp hAdd (eVar 9) (eOpH (hIx KT) (hE (eOpH (hIx KT) (hOwn 4) (eOp hAdd (eVar 6) (eVar 8)))) (eC (.int 0)))) (eOpH (hIx KT) (hE (eVar 7)) (eC (.int 0)))))) (sSet 7 (eTup (aCons (eOp hAdd (eVar 9) (eOpH (hIx KT) (hE (eOpH (hIx KT) (hOwn 4) (eOp hAdd (eVar 6) (eVar 8)))) (eC (.int 0)))) (aCons (eVar 8) aNil)))) sNx) (vs.map npP)
      [.val (.int n), .val (.tup (fs.map npP)), .val (.tup (ws.map npP)), .val (.lst ((clearL n fs).map npP)), .own (.dk (kvI eP (msE n R))), x5, .val (.int p), .val (eP b), y8, y9] L = some (.ok (.nx
      [.val (.int n), .val (.tup (fs.map npP)), .val (.tup (ws.map npP)), .val (.lst ((clearL n fs).map npP)), .own (.dk (kvI eP (msE n R))), x5, .val (.int p), .val (eP (vs.foldl (bestF (fitB n fs) (tabAt n R) p) b)), y8', y9']) L)
  | [], b, y8, y9, _ => ⟨y8, y9, rfl⟩
  | w :: vs, b, y8, y9, hw => by
    obtain ⟨y8', y9', e⟩ := want_loop (R := R) hf hfl hp hR (x5 := x5) vs (bestF (fitB n fs) (tabAt n R) p b w) (.val (.int w.1)) (.val (.int w.2)) fun x hx => hw x (by simp [hx])
    refine ⟨y8', y9', ?_⟩
    have z2 : 2 ≤ sizeLine := by decide
    have w0 := hw w (by simp)
    have hfit := fits_clear (L := L) hf hfl (by have := clear_len n fs; omega) (b := p) (r := w.1) w0
    have hfit : g_fits [.lst ((clearL n fs).map npP), .int p, .int w.1] L = some (.ok (.bl (fitB n fs p w.1)) L) := hfit
    rw [List.map_cons]
    unfold fLoop
    have ht : gTp (gCns (gNm 8) (gCns (gNm 9) gNls)) (npP w) [.val (.int n), .val (.tup (fs.map npP)), .val (.tup (ws.map npP)), .val (.lst ((clearL n fs).map npP)), .own (.dk (kvI eP (msE n R))), x5, .val (.int p), .val (eP b), y8, y9] = some [.val (.int n), .val (.tup (fs.map npP)), .val (.tup (ws.map npP)), .val (.lst ((clearL n fs).map npP)), .own (.dk (kvI eP (msE n R))), x5, .val (.int p), .val (eP b), .val (.int w.1), .val (.int w.2)] := rfl
    rw [ht]
    dsimp only
    have hb : sIf (bAnd (bB (eCall 3 g_fits (aCons (eVar 3) (aCons (eVar 6) (aCons (eVar 8) aNil))) [])) (bB (eOp hGt (eOp hAdd (eVar 9) (eOpH (hIx KT) (hE (eOpH (hIx KT) (hOwn 4) (eOp hAdd (eVar 6) (eVar 8)))) (eC (.int 0)))) (eOpH (hIx KT) (hE (eVar 7)) (eC (.int 0)))))) (sSet 7 (eTup (aCons (eOp hAdd (eVar 9) (eOpH (hIx KT) (hE (eOpH (hIx KT) (hOwn 4) (eOp hAdd (eVar 6) (eVar 8)))) (eC (.int 0)))) (aCons (eVar 8) aNil)))) sNx [.val (.int n), .val (.tup (fs.map npP)), .val (.tup (ws.map npP)), .val (.lst ((clearL n fs).map npP)), .own (.dk (kvI eP (msE n R))), x5, .val (.int p), .val (eP b), .val (.int w.1), .val (.int w.2)] L
        = some (.ok (.nx [.val (.int n), .val (.tup (fs.map npP)), .val (.tup (ws.map npP)), .val (.lst ((clearL n fs).map npP)), .own (.dk (kvI eP (msE n R))), x5, .val (.int p), .val (eP (bestF (fitB n fs) (tabAt n R) p b w)), .val (.int w.1), .val (.int w.2)]) L) := by
      refine Ok.eq ?_
      unfold bestF
      cases hc : fitB n fs p w.1 with
      | false =>
        rw [hc] at hfit
        simp [hfit]
      | true =>
        rw [hc] at hfit
        have hle : p + w.1 ≤ n := by
          unfold fitB at hc
          rw [Bool.and_eq_true, decide_eq_true_eq] at hc
          exact hc.1
        have hix := msE_ixO (kt := KT) (L := L) (n := n) (R := R) (x := p + w.1) hle (by omega)
        have ec : (((p + w.1 : Nat) : Nat) : Int) = (p : Int) + (w.1 : Int) := by omega
        rw [ec] at hix
        have e0 := fun e : En => eP_ix0 (kt := KT) (L := L) (e := e)
        have ev : (R.getD (n - (p + w.1)) eD).1 = tabAt n R (p + w.1) := rfl
        by_cases hl : b.1 < w.2 + tabAt n R (p + w.1)
        · have hl' : (b.1 : Int) < (w.2 : Int) + (tabAt n R (p + w.1) : Int) := by omega
          simp only [hl, decide_true, Bool.and_self, if_true]
          simp only [sIf_at, bAnd_at, bB_at, eCall_at, aCons_at, aNil_at, eVar_at, eC_at, eOp_at, eOpH_at, hE_at, hOwn_at, bnd_ok, List.getElem?_cons_zero, List.getElem?_cons_succ, List.append_nil, List.length_cons, List.length_nil, hfit, hAdd_i, ret_some, hix, e0, hCmp_i, if_true, ev, hl', decide_true, sSet_at, eTup_at, z2]
          refine Ok_ok.mpr ⟨?_, rfl⟩
          simp [eP]
        · have hl' : ¬ (b.1 : Int) < (w.2 : Int) + (tabAt n R (p + w.1) : Int) := by omega
          simp only [hl, decide_false, Bool.and_false, Bool.false_eq_true, if_false]
          simp only [sIf_at, bAnd_at, bB_at, eCall_at, aCons_at, aNil_at, eVar_at, eC_at, eOp_at, eOpH_at, hE_at, hOwn_at, bnd_ok, List.getElem?_cons_zero, List.getElem?_cons_succ, List.append_nil, List.length_cons, List.length_nil, hfit, hAdd_i, ret_some, hix, e0, hCmp_i, if_true, ev, hl', decide_false, Bool.false_eq_true, if_false, sNx_at]
          exact Ok_ok.mpr ⟨rfl, rfl⟩
    rw [hb]
    exact e
def WoJ (n : Nat) (fs ws : List NP) (L : Store) (r : List PV) (s : Slots) (L' : Store) : Prop := L' = L ∧ ∃ k x5 x6 x7 x8 x9, k + r.length = n ∧ r = (List.range' k r.length).map (fun i : Nat => PV.int i) ∧ s = [.val (.int n), .val (.tup (fs.map npP)), .val (.tup (ws.map npP)), .val (.lst ((clearL n fs).map npP)), .own (.dk (kvI eP (msE n (tabR (fitB n fs) ws n k)))), x5, x6, x7, x8, x9]
theorem worths_ok (hf : FlOk n fs) (hfl : fs.length ≤ 1000) (hn : n ≤ 10000) (hw : ∀ w ∈ ws, 0 < w.1) : g_worths [.int n, .tup (fs.map npP), .tup (ws.map npP)] L = some (.ok (tabP n (tabR (fitB n fs) ws n n)) L) := by
  refine Ok.eq ?_
  unfold g_worths
  rw [ok_def]
  unfold b_worths
  have z2 : 2 ≤ sizeLine := by decide
  have hclr := clear_ok (L := L) (n := n) hfl
  have h1 : (n : Int) < 4611686018427387904 := by omega
  have h2 : (-4611686018427387904 : Int) ≤ (n : Int) := by omega
  have hr : rgItems 0 n = (List.range n).map fun i : Nat => PV.int i := by simp [rgItems]
  have k0 : keyOf (.int n) = some (.inl (n : Int)) := rfl
  simp [hclr, z2, k0]
  rw [Ok_seq]
  simp [h1, h2, hr]
  refine ok_loop (WoJ n fs ws L) ?_ ?_ _ _ _ ?_
  · rintro x r s L' ⟨rfl, k, x5, x6, x7, x8, x9, hk, hr, rfl⟩
    rw [List.length_cons] at hk hr
    rw [List.range'_succ, List.map_cons] at hr
    obtain ⟨e0, hr2⟩ := List.cons.inj hr
    subst e0
    refine ⟨_, rfl, ?_⟩
    have hlen := tabR_len (fitB n fs) ws n k
    obtain ⟨p, hp⟩ : ∃ p : Nat, p = n - (k + 1) := ⟨_, rfl⟩
    have ep : (n : Int) - 1 - (k : Int) = (p : Int) := by omega
    have ep1 : (p : Int) + 1 = ((p + 1 : Nat) : Int) := by omega
    have hix := msE_ixO (kt := KT) (L := L') (n := n) (R := tabR (fitB n fs) ws n k) (x := p + 1) (by omega) (by omega)
    have ev : ((tabR (fitB n fs) ws n k).getD (n - (p + 1)) eD).1 = tabAt n (tabR (fitB n fs) ws n k) (p + 1) := rfl
    have hix : hIx KT L' (.o (.dk (kvI eP (msE n (tabR (fitB n fs) ws n k))))) (.int ((p : Int) + 1)) = some (eP ((tabR (fitB n fs) ws n k).getD (n - (p + 1)) eD)) := by rw [ep1]; exact hix
    have e0 := fun e : En => eP_ix0 (kt := KT) (L := L') (e := e)
    obtain ⟨y8, y9, hloop⟩ := want_loop (L := L') (ws := ws) (R := tabR (fitB n fs) ws n k) (p := p) hf hfl (by omega) (by omega) (x5 := .val (.int k)) ws (tabAt n (tabR (fitB n fs) ws n k) (p + 1), none) x8 x9 hw
    have ei : PV.tup [.int (tabAt n (tabR (fitB n fs) ws n k) (p + 1) : Nat), .non] = eP (tabAt n (tabR (fitB n fs) ws n k) (p + 1), none) := rfl
    have it : itemsOf (.tup (ws.map npP)) = some (ws.map npP) := rfl
    have htab : tabR (fitB n fs) ws n (k + 1) = tabR (fitB n fs) ws n k ++ [bestE (fitB n fs) ws (tabAt n (tabR (fitB n fs) ws n k)) p] := by rw [hp]; rfl
    have hset : ∀ e : En, setC KT (.dk (kvI eP (msE n (tabR (fitB n fs) ws n k)))) (.int p) (eP e) = some (.dk (kvI eP (msE n (tabR (fitB n fs) ws n k ++ [e])))) := fun e => by
      show (if (kvI eP (msE n (tabR (fitB n fs) ws n k))).length < sizeLine then (keyOf (.int p)).map fun q => Cell.dk (Fx.put (kvI eP (msE n (tabR (fitB n fs) ws n k))) q (eP e)) else none) = _
      have hz : (kvI eP (msE n (tabR (fitB n fs) ws n k))).length < sizeLine := Nat.lt_of_le_of_lt (by simp [kvI, msE]; omega : _ ≤ 20000) (by decide)
      rw [if_pos hz]
      show some (Cell.dk (Fx.put (kvI eP (msE n (tabR (fitB n fs) ws n k))) (.inl (p : Int)) (eP e))) = _
      rw [kvI_put]
      have : (p : Int) = (n : Int) - ((tabR (fitB n fs) ws n k).length : Int) := by omega
      rw [this, msE_snoc]
    have fin : WoJ n fs ws L' r [.val (.int n), .val (.tup (fs.map npP)), .val (.tup (ws.map npP)), .val (.lst ((clearL n fs).map npP)), .own (.dk (kvI eP (msE n (tabR (fitB n fs) ws n (k + 1))))), .val (.int k), .val (.int p), .val (eP (bestE (fitB n fs) ws (tabAt n (tabR (fitB n fs) ws n k)) p)), y8, y9] L' := ⟨rfl, k + 1, _, _, _, _, _, by omega, hr2, rfl⟩
    rw [htab] at fin
    have hs := hset (bestE (fitB n fs) ws (tabAt n (tabR (fitB n fs) ws n k)) p)
    have hloop : fLoop _ _ (ws.map npP) _ L' = some (.ok (.nx [_, _, _, _, _, _, _, .val (eP (bestE (fitB n fs) ws (tabAt n (tabR (fitB n fs) ws n k)) p)), y8, y9]) L') := hloop
    generalize bestE (fitB n fs) ws (tabAt n (tabR (fitB n fs) ws n k)) p = be at hloop hs fin
    simp only [Ok_seqSet, eOp_at, eVar_at, eC_at, bnd_ok, gNm_at, List.set_cons_zero, List.set_cons_succ, List.getElem?_cons_zero, List.getElem?_cons_succ, hSub_i, ret_some, Ok_ok, ep]
    simp only [eTup_at, aCons_at, aNil_at, eOpH_at, hE_at, hOwn_at, eOp_at, eVar_at, eC_at, bnd_ok, List.set_cons_zero, List.set_cons_succ, List.getElem?_cons_zero, List.getElem?_cons_succ, hAdd_i, ret_some, hix, e0, ev, Ok_ok, List.length_cons, List.length_nil, z2, if_true, ei]
    rw [Ok_seq]
    simp only [sFor_at, iE_at, eVar_at, bnd_ok, List.getElem?_cons_zero, List.getElem?_cons_succ, it, ret_some]
    rw [hloop]
    simp only [Ok_ok]
    simp only [sPutO_at, eVar_at, bnd_ok, List.getElem?_cons_zero, List.getElem?_cons_succ, hs, Option.map_some, Ok_ok, List.set_cons_zero, List.set_cons_succ]
    exact fin
  · rintro s L' ⟨rfl, k, x5, x6, x7, x8, x9, hk, _, rfl⟩
    simp at hk
    subst hk
    simp
    rfl
  · exact ⟨rfl, 0, .no, .no, .no, .no, .no, by simp, by simp [List.range_eq_range'], by simp [tabR, msE, kvI, eP]⟩
end
end G

set_option Elab.async false
set_option linter.all false
set_option maxRecDepth 100000
set_option maxHeartbeats 1000000
namespace G
open PySem L2 Fx
/-! ### each less than the next one -/
def riseB {α : Type} (lt : α → α → Bool) : List α → Bool
  | x :: y :: r => lt x y && riseB lt (y :: r)
  | _ => true
def ixB {α : Type} (lt : α → α → Bool) (xs : List α) (i : Nat) : Bool := match xs[i]?, xs[i + 1]? with
  | some a, some b => lt a b
  | _, _ => true
section
variable {α : Type} {lt : α → α → Bool} {e : α → PV}
theorem zip_rise : ∀ xs : List α, ((xs.zip xs.tail).all fun p => lt p.1 p.2) = riseB lt xs
  | [] => rfl
  | [x] => rfl
  | x :: y :: r => by
    have h := zip_rise (y :: r)
    unfold riseB
    rw [← h]
    rfl
theorem rise_ix : ∀ xs : List α, ((List.range (xs.length - 1)).all fun i => ixB lt xs i) = riseB lt xs
  | [] => rfl
  | [x] => rfl
  | x :: y :: r => by
    have h := rise_ix (y :: r)
    have e : (x :: y :: r).length - 1 = ((y :: r).length - 1) + 1 := rfl
    unfold riseB
    rw [e, List.range_succ_eq_map, List.all_cons, List.all_map, ← h]
    rfl
theorem riseB_pw (tr : ∀ x y z, lt x y = true → lt y z = true → lt x z = true) : ∀ xs : List α, riseB lt xs = true ↔ xs.Pairwise (fun a b => lt a b = true)
  | [] => by simp [riseB]
  | [x] => by simp [riseB]
  | x :: y :: r => by
    have h := riseB_pw tr (y :: r)
    unfold riseB
    rw [Bool.and_eq_true, h, List.pairwise_cons (a := x)]
    constructor
    · rintro ⟨h1, h2⟩
      refine ⟨fun z hz => ?_, h2⟩
      rcases List.mem_cons.mp hz with q | q
      · rw [q]; exact h1
      · exact tr x y z h1 ((List.pairwise_cons.mp h2).1 z q)
    · rintro ⟨h1, h2⟩
      exact ⟨h1 y (by simp), h2⟩
theorem zipP_map2 {β : Type} (f : α → PV) (g : β → PV) : ∀ (xs : List α) (ys : List β), zipP (xs.map f) (ys.map g) = (xs.zip ys).map fun p => .tup [f p.1, g p.2]
  | [], ys => by simp [zipP]
  | x :: xs, [] => by simp [zipP]
  | x :: xs, y :: ys => by
    have := zipP_map2 f g xs ys
    unfold zipP at *
    simp only [List.map_cons, List.zip_cons_cons]
    rw [this]
theorem seqP_slice1 {L : Store} (b : Bool) (xs : List PV) : hSlice L (.v (seqP b xs)) (some 1) none = some (seqP b xs.tail) := by
  cases b
  · show some (PV.lst (cutP _ _ _)) = _
    rw [cut_1]
    rfl
  · show some (PV.tup (cutP _ _ _)) = _
    rw [cut_1]
    rfl
theorem seqP_zip (b : Bool) (xs ys : List PV) : hZip (seqP b xs) (seqP b ys) = some (zipP xs ys) := by cases b <;> rfl
theorem seqP_items (b : Bool) (xs : List PV) : itemsOf (seqP b xs) = some xs := by cases b <;> rfl
/-- each item with the next one -/
theorem next_zip {L : Store} (b : Bool) (xs : List α) : hSlice L (.v (seqP b (xs.map e))) (some 1) none = some (seqP b (xs.map e).tail) ∧ hZip (seqP b (xs.map e)) (seqP b (xs.map e).tail) = some ((xs.zip xs.tail).map fun p => .tup [e p.1, e p.2]) := by
  refine ⟨seqP_slice1 b _, ?_⟩
  rw [seqP_zip, ← List.map_tail, zipP_map2]
end
end G

set_option Elab.async false
set_option linter.all false
set_option maxRecDepth 100000
set_option maxHeartbeats 1000000
namespace G
open PySem L2 Fx
/-- what a roll is worth -/
def wOf (ws : List NP) (r : Nat) : Nat := ((ws.find? fun w => decide (w.1 = r)).map (·.2)).getD 0
theorem wOf_mem {ws : List NP} (hn : ws.Pairwise fun a b => a.1 < b.1) {w : NP} (hw : w ∈ ws) : wOf ws w.1 = w.2 := by
  unfold wOf
  induction ws with
  | nil => cases hw
  | cons x ws ih =>
    rw [List.find?_cons]
    have hp := List.pairwise_cons.mp hn
    rcases List.mem_cons.mp hw with e | e
    · subst e; simp
    · have := hp.1 w e
      have hx : ¬ x.1 = w.1 := by omega
      simp only [hx, decide_false]
      exact ih hp.2 e
def worthL (ws : List NP) (cs : List NP) : Nat := (cs.map fun c => wOf ws c.2).sum
/-- cuts up to a place, worth what is not worth behind it -/
structure PathOk (fit : Nat → Nat → Bool) (ws : List NP) (n p : Nat) (cs : List NP) : Prop where
  fit_ : ∀ c ∈ cs, fit c.1 c.2 = true ∧ (∃ w ∈ ws, w.1 = c.2) ∧ c.1 + c.2 ≤ p
  ord : cs.Pairwise fun a b => a.1 + a.2 ≤ b.1
  worth : worthL ws cs + valT fit ws n p = valT fit ws n 0
theorem path_nil {fit : Nat → Nat → Bool} {ws : List NP} {n : Nat} : PathOk fit ws n 0 [] := ⟨by simp, by simp, by simp [worthL]⟩
theorem path_skip {fit : Nat → Nat → Bool} {ws : List NP} {n p : Nat} {cs : List NP} (h : PathOk fit ws n p cs) (e : valT fit ws n p = valT fit ws n (p + 1)) : PathOk fit ws n (p + 1) cs := ⟨fun c hc => by
  obtain ⟨h1, h2, h3⟩ := h.fit_ c hc
  exact ⟨h1, h2, by omega⟩, h.ord, by rw [← e]; exact h.worth⟩
theorem path_cut {fit : Nat → Nat → Bool} {ws : List NP} {n p : Nat} {cs : List NP} (h : PathOk fit ws n p cs) (hn : ws.Pairwise fun a b => a.1 < b.1) {w : NP} (hw : w ∈ ws) (hf : fit p w.1 = true) (e : valT fit ws n p = w.2 + valT fit ws n (p + w.1)) : PathOk fit ws n (p + w.1) (cs ++ [(p, w.1)]) := by
  refine ⟨fun c hc => ?_, List.pairwise_append.mpr ⟨h.ord, by simp, fun a ha b hb => ?_⟩, ?_⟩
  · rcases List.mem_append.mp hc with z | z
    · obtain ⟨h1, h2, h3⟩ := h.fit_ c z
      exact ⟨h1, h2, by omega⟩
    · simp at z
      subst z
      exact ⟨hf, ⟨w, hw, rfl⟩, Nat.le_refl _⟩
  · simp at hb
    subst hb
    exact (h.fit_ a ha).2.2
  · have := h.worth
    unfold worthL at *
    rw [List.map_append, List.sum_append]
    simp [wOf_mem hn hw]
    omega
theorem riseB_of_pw {α : Type} {lt : α → α → Bool} : ∀ {xs : List α}, xs.Pairwise (fun a b => lt a b = true) → riseB lt xs = true
  | [], _ => rfl
  | [x], _ => rfl
  | x :: y :: r, h => by
    have hp := List.pairwise_cons.mp h
    unfold riseB
    rw [hp.1 y (by simp), riseB_of_pw hp.2]
    rfl
end G

set_option Elab.async false
set_option linter.all false
set_option maxRecDepth 100000
set_option maxHeartbeats 1000000
namespace G
open PySem L2 Fx
/-- a while loop with an invariant and a measure -/
theorem ok_while {p : BF} {b : SF} {P : Flw → Store → Prop} (I : Nat → Slots → Store → Prop)
    (step : ∀ m s L, I m s L → ∃ k, p s L = some (.ok k L) ∧ (k = false → P (.nx s) L) ∧ (k = true → Ok (b s L) fun w L2 => match w with
      | .nx s2 => ∃ m', m' < m ∧ I m' s2 L2
      | .ct s2 => ∃ m', m' < m ∧ I m' s2 L2
      | .bk s2 => P (.nx s2) L2
      | .rt v => P (.rt v) L2)) : ∀ n m s L, m < n → I m s L → Ok (wLoop p b n s L) P
  | 0, m, s, L, h, _ => absurd h (Nat.not_lt_zero m)
  | n + 1, m, s, L, h, hI => by
    obtain ⟨k, h1, h2, h3⟩ := step m s L hI
    show Ok (match p s L with
      | some (.ok true L1) => match b s L1 with
        | some (.ok (.nx s2) L2) => wLoop p b n s2 L2
        | some (.ok (.ct s2) L2) => wLoop p b n s2 L2
        | some (.ok (.bk s2) L2) => some (.ok (.nx s2) L2)
        | z => z
      | some (.ok false L1) => some (.ok (.nx s) L1)
      | some (.err x L1) => some (.err x L1)
      | none => none) P
    rw [h1]
    cases k with
    | false => exact Ok_ok.mpr (h2 rfl)
    | true =>
      obtain ⟨w, L2, e, hw⟩ := h3 rfl
      dsimp only
      rw [e]
      cases w with
      | nx s2 =>
        obtain ⟨m', hm, hi⟩ := hw
        exact ok_while I step n m' s2 L2 (by omega) hi
      | ct s2 =>
        obtain ⟨m', hm, hi⟩ := hw
        exact ok_while I step n m' s2 L2 (by omega) hi
      | bk s2 => exact Ok_ok.mpr hw
      | rt v => exact Ok_ok.mpr hw
/-- a loop that looks at each item and ends with v at the first that fails -/
theorem fLoop_src {α : Type} {t : TGF} {b : SF} {L : Store} {f : α → PV} {q : α → Bool} {v : PV} {S : Slots → Prop} : ∀ (xs : List α) (s : Slots), S s → (∀ x ∈ xs, ∀ s, S s → ∃ s1 s2, t (f x) s = some s1 ∧ S s2 ∧ b s1 L = some (.ok (if q x = true then .nx s2 else .rt v) L)) →
    ∃ s', S s' ∧ fLoop t b (xs.map f) s L = some (.ok (if xs.all q = true then .nx s' else .rt v) L)
  | [], s, h, _ => ⟨s, h, rfl⟩
  | x :: r, s, h, hb => by
    obtain ⟨s1, s2, h1, h2, h3⟩ := hb x (by simp) s h
    rw [List.map_cons]
    unfold fLoop
    rw [h1]
    dsimp only
    rw [h3]
    cases hq : q x with
    | false =>
      rw [if_neg Bool.false_ne_true]
      exact ⟨s2, h2, by simp [hq]⟩
    | true =>
      rw [if_pos rfl]
      obtain ⟨s', k1, k2⟩ := fLoop_src r s2 h2 fun y hy => hb y (List.mem_cons_of_mem x hy)
      exact ⟨s', k1, by simpa [hq] using k2⟩
theorem lt_fuelN {m : Nat} (h : m ≤ 1000000) : m < fuelN := Nat.lt_of_le_of_lt h (Nat.lt_of_lt_of_le (by decide : 1000000 < 2 ^ 64) (Nat.pow_le_pow_right (by decide) (by decide)))
end G

set_option Elab.async false
set_option linter.all false
set_option maxRecDepth 100000
set_option maxHeartbeats 1000000
namespace G
open PySem L2 Fx
section
variable {n : Nat} {fs ws : List NP} {L : Store}
def BeJ (n : Nat) (fs ws : List NP) (L : Store) (m : Nat) (s : Slots) (L' : Store) : Prop := L' = L ∧ ∃ p cs y6, m = n - p ∧ p ≤ n ∧ PathOk (fitB n fs) ws n p cs ∧ cs.length ≤ p ∧ s = [.val (.int n), .val (.tup (fs.map npP)), .val (.tup (ws.map npP)), .val (tabP n (tabR (fitB n fs) ws n n)), .own (.lst (cs.map npP)), .val (.int p), y6]
theorem best_ok (hf : FlOk n fs) (hfl : fs.length ≤ 1000) (hn : n ≤ 10000) (hw : ∀ w ∈ ws, 0 < w.1) (hws : ws.Pairwise fun a b => a.1 < b.1) : ∃ cs, g_best_cuts [.int n, .tup (fs.map npP), .tup (ws.map npP)] L = some (.ok (.tup (cs.map npP)) L) ∧ PathOk (fitB n fs) ws n n cs ∧ cs.length ≤ n := by
  have key : Ok (g_best_cuts [.int n, .tup (fs.map npP), .tup (ws.map npP)] L) fun v L' => L' = L ∧ ∃ cs, v = .tup (cs.map npP) ∧ PathOk (fitB n fs) ws n n cs ∧ cs.length ≤ n := by
    unfold g_best_cuts
    rw [ok_def]
    unfold b_best_cuts
    have z2 : 2 ≤ sizeLine := by decide
    have hwo := worths_ok (L := L) (ws := ws) hf hfl hn hw
    have hlen := tabR_len (fitB n fs) ws n n
    have hfo := fitB_ok (n := n) (fs := fs) hw
    simp [hwo]
    rw [Ok_seq]
    refine ok_while (BeJ n fs ws L) ?_ fuelN n _ _ (lt_fuelN (by omega)) ⟨rfl, 0, [], .no, by omega, Nat.zero_le _, path_nil, Nat.le_refl _, rfl⟩
    rintro m s L' ⟨rfl, p, cs, y6, rfl, hp, hpath, hcl, rfl⟩
    refine ⟨decide (p < n), ?_, fun hk => ?_, fun hk => ?_⟩
    · have : decide ((p : Int) < (n : Int)) = decide (p < n) := decide_eq_decide.mpr (by omega)
      simp only [bB_at, eOp_at, eVar_at, bnd_ok, List.getElem?_cons_zero, List.getElem?_cons_succ, hLt_i, ret_some, this]
    · have hpn : p = n := by
        have := of_decide_eq_false hk
        omega
      subst hpn
      dsimp only
      simp
      exact ⟨cs, rfl, hpath, hcl⟩
    · have hpn : p < n := of_decide_eq_true hk
      have hix := msE_ixV (kt := KT) (L := L') (n := n) (R := tabR (fitB n fs) ws n n) (x := p) (by omega) (by omega)
      have e1 := eP_ix1 (kt := KT) (L := L') (e := (tabR (fitB n fs) ws n n).getD (n - p) eD)
      have ec : ((tabR (fitB n fs) ws n n).getD (n - p) eD).2 = choT (fitB n fs) ws n p := rfl
      rw [ec] at e1
      have hsz : cs.length < sizeLine := Nat.lt_of_le_of_lt (by omega : _ ≤ 100000) (by decide)
      rcases val_cho hfo hpn with ⟨c0, cv⟩ | ⟨w, hwm, hfit, c0, cv⟩
      · rw [c0] at e1
        have n1 : hIsNot .non .non = some (.bl false) := rfl
        have n2 : hIs .non .non = some (.bl true) := rfl
        have e1 : hIx KT L' (.v (eP ((tabR (fitB n fs) ws n n).getD (n - p) eD))) (.int 1) = some .non := e1
        have fin : ∃ m', m' < n - p ∧ BeJ n fs ws L' m' [.val (.int n), .val (.tup (fs.map npP)), .val (.tup (ws.map npP)), .val (tabP n (tabR (fitB n fs) ws n n)), .own (.lst (cs.map npP)), .val (.int ((p + 1 : Nat) : Int)), .val .non] L' := ⟨n - (p + 1), by omega, rfl, p + 1, cs, _, rfl, by omega, path_skip hpath cv, by omega, rfl⟩
        rw [Ok_seqSet]
        simp only [eOpH_at, hE_at, eVar_at, eC_at, bnd_ok, List.getElem?_cons_zero, List.getElem?_cons_succ, hix, ret_some, e1, Ok_ok, List.set_cons_zero, List.set_cons_succ]
        rw [Ok_seq]
        simp only [sIf_at, bB_at, eOp_at, eVar_at, eC_at, bnd_ok, List.getElem?_cons_zero, List.getElem?_cons_succ, n1, n2, ret_some, Bool.false_eq_true, if_false, if_true, sNx_at, Ok_ok, sAugI_at, eIf_at, List.set_cons_zero, List.set_cons_succ]
        exact fin
      · rw [c0] at e1
        have n1 : hIsNot (.int w.1) .non = some (.bl true) := rfl
        have n2 : hIs (.int w.1) .non = some (.bl false) := rfl
        have e1 : hIx KT L' (.v (eP ((tabR (fitB n fs) ws n n).getD (n - p) eD))) (.int 1) = some (.int w.1) := e1
        have h3 := hfo.le p w hwm hfit
        have h4 := hw w hwm
        have fin : ∃ m', m' < n - p ∧ BeJ n fs ws L' m' [.val (.int n), .val (.tup (fs.map npP)), .val (.tup (ws.map npP)), .val (tabP n (tabR (fitB n fs) ws n n)), .own (.lst ((cs ++ [(p, w.1)]).map npP)), .val (.int ((p + w.1 : Nat) : Int)), .val (.int w.1)] L' := ⟨n - (p + w.1), by omega, rfl, p + w.1, cs ++ [(p, w.1)], _, rfl, by omega, path_cut hpath hws hwm hfit cv, by simp; omega, rfl⟩
        have eap : (cs ++ [(p, w.1)]).map npP = cs.map npP ++ [PV.tup [.int p, .int w.1]] := by rw [List.map_append]; rfl
        rw [eap] at fin
        rw [Ok_seqSet]
        simp only [eOpH_at, hE_at, eVar_at, eC_at, bnd_ok, List.getElem?_cons_zero, List.getElem?_cons_succ, hix, ret_some, e1, Ok_ok, List.set_cons_zero, List.set_cons_succ]
        rw [Ok_seq]
        simp only [sIf_at, bB_at, eOp_at, eVar_at, eC_at, bnd_ok, List.getElem?_cons_zero, List.getElem?_cons_succ, n1, n2, ret_some, Bool.false_eq_true, if_false, if_true, sNx_at, Ok_ok, sAugI_at, eIf_at, List.set_cons_zero, List.set_cons_succ, sOwnM_at, aCons_at, aNil_at, eTup_at, List.length_cons, List.length_nil, z2, isLst_l, mAppend_l, List.length_map, hsz, Option.map_some]
        exact fin
  obtain ⟨v, L', e, rfl, cs, rfl, h1, h2⟩ := key
  exact ⟨cs, e, h1, h2⟩
end
end G

set_option Elab.async false
set_option linter.all false
set_option maxRecDepth 100000
set_option maxHeartbeats 1000000
namespace G
open PySem L2 Fx
section
variable {n : Nat} {fs ws : List NP} {L : Store}
def paperP (n : Nat) (fs ws : List NP) : List PV := (List.range (n + 1)).map fun p => .int (valT (fitB n fs) ws n p)
theorem paper_ok (hf : FlOk n fs) (hfl : fs.length ≤ 1000) (hn : n ≤ 10000) (hw : ∀ w ∈ ws, 0 < w.1) : g_cut_paper [.int n, .tup (fs.map npP), .tup (ws.map npP)] L = some (.ok (.tup (paperP n fs ws)) L) := by
  refine Ok.eq ?_
  unfold g_cut_paper
  rw [ok_def]
  unfold b_cut_paper
  have hwo := worths_ok (L := L) (ws := ws) hf hfl hn hw
  have hlen := tabR_len (fitB n fs) ws n n
  have h1 : (n : Int) + 1 < 4611686018427387904 := by omega
  have h2 : (-4611686018427387904 : Int) ≤ (n : Int) + 1 := by omega
  have hr : rgItems 0 (n + 1) = (List.range (n + 1)).map fun i : Nat => PV.int i := by simp [rgItems]
  have ht : ((n : Int) + 1).toNat = n + 1 := by omega
  have hc := comp_srcY (t := gNm 4) (g := eOpH (hIx KT) (hE (eOpH (hIx KT) (hE (eVar 3)) (eVar 4))) (eC (.int 0))) (s := [.val (.int n), .val (.tup (fs.map npP)), .val (.tup (ws.map npP)), .val (tabP n (tabR (fitB n fs) ws n n)), .no]) (L := L) (f := fun i : Nat => PV.int i)
    (fun p => .int (valT (fitB n fs) ws n p)) (xs := List.range (n + 1)) (fun x hx => ⟨_, rfl, by
      refine Ok.eq ?_
      have hx := List.mem_range.mp hx
      have hix := msE_ixV (kt := KT) (L := L) (n := n) (R := tabR (fitB n fs) ws n n) (x := x) (by omega) (by omega)
      have e0 := fun e : En => eP_ix0 (kt := KT) (L := L) (e := e)
      simp [hix, e0]
      rfl⟩) (Nat.le_trans (by simp; omega : _ ≤ 100000) (by decide))
  simp [hwo, h1, h2, ht, hr, hc]
  rfl
end
end G

set_option Elab.async false
set_option linter.all false
set_option maxRecDepth 100000
set_option maxHeartbeats 1000000
namespace G
open PySem L2 Fx
/-- wants: rolls rising -/
def WOk (ws : List NP) : Prop := ws.Pairwise (fun a b => a.1 < b.1) ∧ ∀ p ∈ ws, 0 < p.1 ∧ p.1 ≤ 200 ∧ 0 < p.2 ∧ p.2 ≤ 1000
end G

set_option Elab.async false
set_option linter.all false
set_option maxRecDepth 100000
set_option maxHeartbeats 1000000
namespace G
open PySem L2 Fx
theorem wants_gen {k : Nat} {L0 L : Store} {m n : Nat} (hn : 0 < n) (hn2 : n ≤ 100000) (h : TL k L0 (m + 20) L) : Ok (g__law_wants [.loc k, .int n] L) fun v L' => (∃ ws, v = .tup (ws.map npP) ∧ WOk ws ∧ 1 ≤ ws.length ∧ ws.length ≤ 3) ∧ TL k L0 m L' := by
  unfold g__law_wants
  rw [ok_def]
  unfold b__law_wants
  have z2 : 2 ≤ sizeLine := by decide
  have z3 : 3 ≤ sizeLine := by decide
  have z5 : 5 ≤ sizeLine := by decide
  simp
  rw [Ok_seq]
  simp
  refine (draw_ok (m := m + 19) h (by decide) (by decide)).imp ?_
  rintro v L1 ⟨⟨i, rfl, h0, h1⟩, hT⟩
  have j2 : 1 + i < 4611686018427387904 := by omega
  have j3 : (-4611686018427387904 : Int) ≤ 1 + i := by omega
  simp [j2, j3]
  refine ok_loop (fun r s L => r.length ≤ 3 ∧ TL k L0 (m + 4 * r.length) L ∧ ∃ c y z lo, s = [.val (.loc k), .val (.int n), .own c, y, z] ∧ lo ≤ 1 ∧ (r = [] → lo = 1) ∧ SI (fun x : Int => PV.int x) (fun a b => (0 < a ∧ a ≤ 200) ∧ 0 < b ∧ b ≤ 1000) lo (3 - r.length) c) ?_ ?_ _ _ _ ?_
  · rintro x r s L ⟨hl, hT, c, y, z, lo, rfl, hlo, _, hc⟩
    refine ⟨_, rfl, ?_⟩
    rw [List.length_cons] at hT hl hc
    rw [Ok_seqSet]
    simp [z5]
    refine (draw_ok (m := m + 4 * r.length + 3) (hT.mono (by omega)) (by omega) (by omega)).imp ?_
    rintro v L1 ⟨⟨a, rfl, a0, a1⟩, hT⟩
    simp
    refine (draw_ok (m := m + 4 * r.length + 2) hT (by decide) (by decide)).imp ?_
    rintro v L1 ⟨⟨b, rfl, b0, b1⟩, hT⟩
    obtain ⟨x1, hx, e⟩ := ix_mem (xs := [PV.int 1, .int 2, .int 3, .int 7, .int (1 + a)]) b0 (by simpa using b1)
    obtain ⟨w, rfl, hw⟩ : ∃ w : Int, x1 = .int w ∧ 0 < w := by
      simp at hx
      rcases hx with rfl | rfl | rfl | rfl | rfl <;> exact ⟨_, rfl, by omega⟩
    simp [e, z3]
    refine (draw_ok (m := m + 4 * r.length + 1) hT (by decide) (by decide)).imp ?_
    rintro v L1 ⟨⟨b, rfl, b0, b1⟩, hT⟩
    obtain ⟨x1, hx, e⟩ := ix_mem (xs := [PV.int 5, .int 20, .int 1000]) b0 (by simpa using b1)
    obtain ⟨u, rfl, hu⟩ : ∃ w : Int, x1 = .int w ∧ 0 < w ∧ w ≤ 1000 := by
      simp at hx
      rcases hx with rfl | rfl | rfl <;> exact ⟨_, rfl, by omega, by omega⟩
    simp [e]
    refine (draw_ok (m := m + 4 * r.length) hT hu.1 (by omega)).imp ?_
    rintro v L1 ⟨⟨d, rfl, d0, d1⟩, hT⟩
    have hmin : ∃ v : Int, (if w < 200 then w else 200) = v ∧ 0 < v ∧ v ≤ 200 := ⟨_, rfl, by split <;> omega, by split <;> omega⟩
    obtain ⟨v, ev, v0, v1⟩ := hmin
    obtain ⟨c', e1, hc'⟩ := hc.put (kt := KT) (k := v) (a := 1 + d) hlo (by omega) ⟨⟨v0, v1⟩, by omega, by omega⟩
    simp [ev, e1]
    exact ⟨by omega, hT, 1, by omega, fun _ => rfl, hc'.mono (by omega)⟩
  · rintro s L ⟨_, hT, c, y, z, lo, rfl, hlo, h1, hc⟩
    obtain ⟨ms, q1, q2, q3, q4, q5⟩ := hc.sorted (kt := KT) (L := L) (by simp)
    have hl := h1 rfl
    subst hl
    simp at q2
    simp [q4]
    have hk := comp_srcY (t := gNm 4) (g := eTup (aCons (eVar 4) (aCons (eOpH (hIx KT) (hOwn 2) (eVar 4)) aNil))) (s := [.val (.loc k), .val (.int n), .own c, y, .no]) (L := L) (f := fun r : Int × Int => PV.int r.1)
      (fun r => .tup [.int r.1, .int r.2]) (xs := ms) (fun r hr => ⟨_, rfl, by
        refine Ok.eq ?_
        simp [q5 r hr, z2]⟩) (Nat.le_trans (by omega : ms.length ≤ 64) (by decide))
    simp [hk]
    refine ⟨⟨ms.map fun r => (r.1.toNat, r.2.toNat), ?_, ⟨?_, ?_⟩, by rw [List.length_map]; omega, by rw [List.length_map]; omega⟩, by simpa using hT⟩
    · rw [List.map_map]
      refine List.map_congr_left fun r hr => ?_
      obtain ⟨h1, h2⟩ := q3 r hr
      simp [npP]
      omega
    · rw [List.pairwise_map]
      rw [List.pairwise_map] at q1
      refine q1.imp_of_mem fun {a b} ha hb h => ?_
      have h1 := q3 a ha
      have h2 := q3 b hb
      dsimp only
      omega
    · intro p hp
      obtain ⟨r, hr, rfl⟩ := List.mem_map.mp hp
      have h1 := q3 r hr
      dsimp only
      omega
  · have hl : (rgItems 0 (1 + i).toNat).length = (1 + i).toNat := by simp [rgItems]
    refine ⟨by rw [hl]; omega, hT.mono (by rw [hl]; omega), _, _, _, 0, rfl, by omega, fun e => ?_, SI.nil.mono (by omega)⟩
    have := congrArg List.length e
    rw [hl] at this
    simp at this
    omega
end G

set_option Elab.async false
set_option linter.all false
set_option maxRecDepth 100000
set_option maxHeartbeats 1000000
namespace G
open PySem L2 Fx
/-! ### a dict of wants -/
theorem put_new {κ : Type} [DecidableEq κ] {kvs : List (κ × PV)} {k : κ} {v : PV} (h : k ∉ kvs.map (·.1)) : put kvs k v = kvs ++ [(k, v)] := by
  unfold put
  have : ¬ (kvs.any fun kv => decide (kv.1 = k)) = true := fun q => by
    obtain ⟨r, hr, e⟩ := List.any_eq_true.mp q
    exact h (List.mem_map.mpr ⟨r, hr, by simpa using e⟩)
  rw [if_neg this]
theorem merge_fold : ∀ (kvs acc : List (Key × PV)), ((acc ++ kvs).map (·.1)).Nodup → kvs.foldl (fun acc kv => put acc kv.1 kv.2) acc = acc ++ kvs
  | [], acc, _ => by simp
  | kv :: kvs, acc, h => by
    rw [List.foldl_cons]
    have hk : kv.1 ∉ acc.map (·.1) := fun q => by
      rw [List.map_append, List.nodup_append] at h
      exact h.2.2 _ q _ (by simp) rfl
    rw [put_new hk, merge_fold kvs (acc ++ [(kv.1, kv.2)]) (by simpa using h)]
    simp
theorem mergeP_nodup {kvs : List (Key × PV)} (h : (kvs.map (·.1)).Nodup) : mergeP kvs = kvs := by
  unfold mergeP
  rw [merge_fold kvs [] (by simpa using h)]
  rfl
def wsI (ws : List NP) : List (Int × Nat) := ws.map fun w => ((w.1 : Int), w.2)
def nI (b : Nat) : PV := .int b
theorem pairs_ws : ∀ ws : List NP, pairsOf (ws.map npP) = some (kvI nI (wsI ws))
  | [] => rfl
  | w :: ws => by
    show (pairsOf (ws.map npP)).map (((.inl (w.1 : Int) : Key), PV.int w.2) :: ·) = _
    rw [pairs_ws ws]
    rfl
theorem wsI_nodup {ws : List NP} (h : ws.Pairwise fun a b => a.1 < b.1) : ((wsI ws).map (·.1)).Nodup := by
  unfold wsI
  rw [List.map_map]
  refine List.Pairwise.map _ (R := fun a b => a.1 < b.1) (fun a b hab => ?_) h
  show (a.1 : Int) ≠ (b.1 : Int)
  omega
theorem kvI_nodup {α : Type} {f : α → PV} {ms : List (Int × α)} (h : (ms.map (·.1)).Nodup) : ((kvI f ms).map (·.1)).Nodup := by
  unfold kvI
  rw [List.map_map]
  have : ((fun x : Key × PV => x.1) ∘ fun r : Int × α => ((.inl r.1 : Key), f r.2)) = fun r => (.inl r.1 : Key) := rfl
  rw [this]
  have e : (ms.map fun r => (.inl r.1 : Key)) = (ms.map (·.1)).map Sum.inl := by rw [List.map_map]; rfl
  rw [e]
  exact List.Pairwise.map _ (fun a b hab q => hab (Sum.inl.inj q)) h
theorem dict_ws {kt : Bool} {L : Store} {ws : List NP} (h : ws.Pairwise fun a b => a.1 < b.1) : nDict kt L (.v (.tup (ws.map npP))) = some (.dk (kvI nI (wsI ws))) := by
  show (pairsOf (ws.map npP)).map (fun kvs => Cell.dk (mergeP kvs)) = _
  rw [pairs_ws]
  show some (Cell.dk (mergeP _)) = _
  rw [mergeP_nodup (kvI_nodup (wsI_nodup h))]
def dictP (ws : List NP) : PV := .dk ((kvI nI (wsI ws)).map (·.1)) ((kvI nI (wsI ws)).map (·.2))
theorem dictP_look {ws : List NP} (h : ws.Pairwise fun a b => a.1 < b.1) {w : NP} (hw : w ∈ ws) : look (kvI nI (wsI ws)) (.inl (w.1 : Int)) = some (.int w.2) := look_memI (f := nI) (wsI_nodup h) ((w.1 : Int), w.2) (List.mem_map.mpr ⟨w, hw, rfl⟩)
theorem dictP_view {L : Store} {ws : List NP} : view L (.v (dictP ws)) = some (.dk (kvI nI (wsI ws))) := by
  show some (Vw.dk (((kvI nI (wsI ws)).map (·.1)).zip ((kvI nI (wsI ws)).map (·.2)))) = _
  rw [zip_fs]
theorem dictP_d {kt : Bool} {ws : List NP} (h : ws.Pairwise fun a b => a.1 < b.1) {w : NP} (hw : w ∈ ws) : dLook' kt (.dk (kvI nI (wsI ws))) (.int (w.1 : Int)) = some (some (.int w.2)) := by
  show some (look (kvI nI (wsI ws)) (.inl (w.1 : Int))) = _
  rw [dictP_look h hw]
theorem dictP_ix {kt : Bool} {L : Store} {ws : List NP} (h : ws.Pairwise fun a b => a.1 < b.1) {w : NP} (hw : w ∈ ws) : hIx kt L (.v (dictP ws)) (.int (w.1 : Int)) = some (.int w.2) := by
  unfold hIx
  rw [dictP_view]
  show (match dLook' kt (.dk (kvI nI (wsI ws))) (.int (w.1 : Int)) with
    | some (some v) => some v
    | _ => none) = _
  rw [dictP_d h hw]
theorem dictP_in {kt : Bool} {L : Store} {ws : List NP} (h : ws.Pairwise fun a b => a.1 < b.1) {w : NP} (hw : w ∈ ws) : hNotIn kt L (.int (w.1 : Int)) (.v (dictP ws)) = some (.bl false) := by
  unfold hNotIn isIn
  rw [dictP_view]
  show ((dLook' kt (.dk (kvI nI (wsI ws))) (.int (w.1 : Int))).map (·.isSome)).map (fun b => PV.bl (!b)) = _
  rw [dictP_d h hw]
  rfl
theorem sum_cast : ∀ l : List Nat, (l.map fun (x : Nat) => (x : Int)).sum = ((l.sum : Nat) : Int)
  | [] => rfl
  | x :: l => by
    rw [List.map_cons, List.sum_cons, List.sum_cons, sum_cast l]
    omega
theorem intsOf_ints : ∀ ns : List Int, intsOf (ns.map PV.int) = some ns
  | [] => rfl
  | n :: ns => by
    show (intsOf (ns.map PV.int)).map (n :: ·) = _
    rw [intsOf_ints ns]
    rfl
end G

set_option Elab.async false
set_option linter.all false
set_option maxRecDepth 100000
set_option maxHeartbeats 1000000
namespace G
open PySem L2 Fx
mutual
theorem pveq_refl : ∀ {d : Nat} {v : PV}, Pl d v → pveq v v = true
  | _, .non, _ => rfl
  | _, .bl b, _ => by simp [pveq]
  | _, .int i, _ => by simp [pveq]
  | _, .str x, _ => by simp [pveq]
  | 0, .tup xs, h => h.elim
  | d + 1, .tup xs, h => by
    simp only [pveq]
    exact pveqs_refl (d := d) h.2
  | 0, .lst xs, h => h.elim
  | d + 1, .lst xs, h => by
    simp only [pveq]
    exact pveqs_refl (d := d) h.2
  | d, .dk _ _, h => by cases d <;> exact h.elim
  | d, .dt _ _, h => by cases d <;> exact h.elim
  | d, .loc _, h => by cases d <;> exact h.elim
  | d, .scr _, h => by cases d <;> exact h.elim
theorem pveqs_refl : ∀ {d : Nat} {xs : List PV}, (∀ x ∈ xs, Pl d x) → pveqs xs xs = true
  | _, [], _ => rfl
  | d, x :: xs, h => by
    simp only [pveqs, pveq_refl (h x (by simp)), pveqs_refl (d := d) (fun y hy => h y (List.mem_cons_of_mem x hy)), Bool.and_self]
end
mutual
theorem pl_dOk : ∀ {d : Nat} {v : PV}, Pl d v → ∀ n, d ≤ n → dOk n v = true
  | _, .non, _, n, _ => by cases n <;> rfl
  | _, .bl b, _, n, _ => by cases n <;> rfl
  | _, .int i, _, n, _ => by cases n <;> rfl
  | d, .str x, h, n, _ => by
    have h : PyData.strOk x = true := by cases d <;> exact h
    cases n <;> simpa [dOk] using h
  | 0, .tup xs, h, _, _ => h.elim
  | d + 1, .tup xs, h, 0, hn => absurd hn (by omega)
  | d + 1, .tup xs, h, n + 1, hn => by
    show dOks n xs = true
    exact pl_dOks h.2 n (by omega)
  | 0, .lst xs, h, _, _ => h.elim
  | d + 1, .lst xs, h, 0, hn => absurd hn (by omega)
  | d + 1, .lst xs, h, n + 1, hn => by
    show dOks n xs = true
    exact pl_dOks h.2 n (by omega)
  | d, .dk _ _, h, _, _ => by cases d <;> exact h.elim
  | d, .dt _ _, h, _, _ => by cases d <;> exact h.elim
  | d, .loc _, h, _, _ => by cases d <;> exact h.elim
  | d, .scr _, h, _, _ => by cases d <;> exact h.elim
theorem pl_dOks : ∀ {d : Nat} {xs : List PV}, (∀ x ∈ xs, Pl d x) → ∀ n, d ≤ n → dOks n xs = true
  | _, [], _, n, _ => by simp [dOks]
  | d, x :: xs, h, n, hn => by
    simp only [dOks, pl_dOk (h x (by simp)) n hn, pl_dOks (d := d) (fun y hy => h y (List.mem_cons_of_mem x hy)) n hn, Bool.and_self]
end
theorem pl_eq {d : Nat} {v : PV} (h : Pl d v) (hd : d ≤ 64) : hEq v v = some (.bl true) ∧ hNe v v = some (.bl false) := by
  have e1 := pl_dOk h 64 hd
  have e2 := pveq_refl h
  unfold hEq hNe
  simp [e1, e2]
end G

set_option Elab.async false
set_option linter.all false
set_option maxRecDepth 100000
set_option maxHeartbeats 1000000
namespace G
open PySem L2 Fx
theorem np_D {N : Nat} (p : NP) (h : p.1 ≤ 2 ^ 60 ∧ p.2 ≤ 2 ^ 60) (h2 : 2 ≤ N) : D N 1 (npP p) := by
  refine ⟨by simpa using h2, fun y hy => ?_⟩
  simp at hy
  rcases hy with rfl | rfl <;> exact D.int' (by omega)
theorem nps_D {N : Nat} {ps : List NP} (hl : ps.length ≤ N) (h : ∀ p ∈ ps, p.1 ≤ 2 ^ 60 ∧ p.2 ≤ 2 ^ 60) (h2 : 2 ≤ N) : ∀ x ∈ ps.map npP, D N 1 x := fun x hx => by
  obtain ⟨p, hp, rfl⟩ := List.mem_map.mp hx
  exact np_D p (h p hp) h2
abbrev TT (ns : List Int) (m : Nat) (L : Store) : Prop := TL 0 [tc ns 0 0] m L
theorem rg_ints (a : Int) (n : Nat) : ∀ y ∈ rgItems a n, ∃ i, y = PV.int i := fun y hy => by
  obtain ⟨i, _, rfl⟩ := List.mem_map.mp hy
  exact ⟨_, rfl⟩
theorem rg_len (a : Int) (n : Nat) : (rgItems a n).length = n := by simp [rgItems]
end G

set_option Elab.async false
set_option linter.all false
set_option maxRecDepth 100000
set_option maxHeartbeats 1000000
namespace G
open PySem L2 Fx
def J0 (ns : List Int) (r : List PV) (s : Slots) (L : Store) : Prop := TT ns (200 * r.length) L ∧ ∃ x2 x3 x4 x5 x6 x7 x8 x9 x10 x11 x12 x13 x14 x15 x16 x17 x18 x19 x20 x21 x22 x23, s = [.val (.scr ns), .val (.loc 0), x2, x3, x4, x5, x6, x7, x8, x9, x10, x11, x12, x13, x14, x15, x16, x17, x18, x19, x20, x21, x22, x23]
theorem of_ok {L : Store} {n : Nat} {fs ws : List NP} (hf : FlOk n fs) (hfl : fs.length ≤ 1000) (hn : n ≤ 10000) (hw : ∀ w ∈ ws, 0 < w.1) : g__law_of [.int n, .tup (fs.map npP), .tup (ws.map npP)] L = some (.ok (.int (valT (fitB n fs) ws n 0 : Nat)) L) := by
  refine Ok.eq ?_
  unfold g__law_of
  rw [ok_def]
  unfold b__law_of
  have hp := paper_ok (L := L) (n := n) (fs := fs) (ws := ws) hf hfl hn hw
  have h0 : atI (paperP n fs ws) 0 = some (.int (valT (fitB n fs) ws n 0 : Nat)) := by
    unfold paperP
    rw [List.range_succ_eq_map, List.map_cons]
    exact atI_0
  simp [hp, h0]
theorem log2_1k {n : Nat} (h : n ≤ 1000) : n.log2 < 20 := by
  by_cases e : n = 0
  · subst e; decide
  · exact (Nat.log2_lt e).mpr (by omega)
theorem log2_b {n : Nat} (h : n ≤ 100000) : n.log2 < 20 := by
  by_cases e : n = 0
  · subst e; decide
  · exact (Nat.log2_lt e).mpr (by omega)
theorem drop_one {ws : List NP} {L : Store} : hSlice L (.v (.tup (ws.map npP))) (some 1) none = some (.tup ((ws.drop 1).map npP)) := by
  cases ws with
  | nil => rfl
  | cons w ws =>
    show some (PV.tup (cutP _ _ _)) = _
    unfold cutP
    have e : HT.sIx (ws.length + 1) 0 (some 1) = 1 := (HT.sIx_nat _ _ 1).trans (by omega)
    simp [HT.sIx_none, e]
    exact List.take_of_length_le (by simp)
section
variable {L : Store} {a0 a1 a2 a3 a4 a5 a6 a7 a8 a9 a10 a11 a12 a13 a14 a15 a16 a17 a18 a19 a20 a21 a22 a23 : SV}
theorem comp_turn {n : Nat} {fs : List NP} (hf : ∀ p ∈ fs, p.1 < p.2 ∧ p.2 ≤ n) (hl : fs.length ≤ 1000) : cLoop (gTp (gCns (gNm 12) (gCns (gNm 13) gNls))) pYes (eTup (aCons (eOp hSub (eVar 3) (eVar 13)) (aCons (eOp hSub (eVar 3) (eVar 12)) aNil))) [a0, a1, a2, .val (.int n), a4, a5, a6, a7, a8, a9, a10, a11, .no, .no, a14, a15, a16, a17, a18, a19, a20, a21, a22, a23] (fs.map npP) [] L = some (.ok (.lst ((turnL n fs).map npP)) L) := by
  have z2 : 2 ≤ sizeLine := by decide
  have hc := comp_srcY (t := gTp (gCns (gNm 12) (gCns (gNm 13) gNls))) (g := eTup (aCons (eOp hSub (eVar 3) (eVar 13)) (aCons (eOp hSub (eVar 3) (eVar 12)) aNil))) (s := [a0, a1, a2, .val (.int n), a4, a5, a6, a7, a8, a9, a10, a11, .no, .no, a14, a15, a16, a17, a18, a19, a20, a21, a22, a23]) (L := L) (f := npP) (fun p => npP (n - p.2, n - p.1)) (xs := fs) (fun p hp => ⟨_, rfl, by
    refine Ok.eq ?_
    have := hf p hp
    have e1 : (n : Int) - p.2 = ((n - p.2 : Nat) : Int) := by omega
    have e2 : (n : Int) - p.1 = ((n - p.1 : Nat) : Int) := by omega
    simp [z2, npP, e1, e2]⟩) (Nat.le_trans hl (by decide))
  rw [hc]
  unfold turnL
  rw [List.map_map]
  rfl
theorem comp_wide {n : Nat} {fs : List NP} (hl : fs.length ≤ 1000) : cLoop (gTp (gCns (gNm 12) (gCns (gNm 13) gNls))) pYes (eTup (aCons (eOp hAdd (eVar 3) (eVar 12)) (aCons (eOp hAdd (eVar 3) (eVar 13)) aNil))) [a0, a1, a2, .val (.int n), a4, a5, a6, a7, a8, a9, a10, a11, .no, .no, a14, a15, a16, a17, a18, a19, a20, a21, a22, a23] (fs.map npP) [] L = some (.ok (.lst ((shiftL n fs).map npP)) L) := by
  have z2 : 2 ≤ sizeLine := by decide
  have hc := comp_srcY (t := gTp (gCns (gNm 12) (gCns (gNm 13) gNls))) (g := eTup (aCons (eOp hAdd (eVar 3) (eVar 12)) (aCons (eOp hAdd (eVar 3) (eVar 13)) aNil))) (s := [a0, a1, a2, .val (.int n), a4, a5, a6, a7, a8, a9, a10, a11, .no, .no, a14, a15, a16, a17, a18, a19, a20, a21, a22, a23]) (L := L) (f := npP) (fun p => npP (n + p.1, n + p.2)) (xs := fs) (fun p hp => ⟨_, rfl, by
    refine Ok.eq ?_
    simp [z2, npP]⟩) (Nat.le_trans hl (by decide))
  rw [hc]
  unfold shiftL
  rw [List.map_map]
  rfl
theorem comp_behind {n : Nat} {fs : List NP} (hl : fs.length ≤ 1000) : cLoop (gTp (gCns (gNm 12) (gCns (gNm 13) gNls))) pYes (eTup (aCons (eOp hAdd (eOp hAdd (eVar 3) (eC (.int 1))) (eVar 12)) (aCons (eOp hAdd (eOp hAdd (eVar 3) (eC (.int 1))) (eVar 13)) aNil))) [a0, a1, a2, .val (.int n), a4, a5, a6, a7, a8, a9, a10, a11, .no, .no, a14, a15, a16, a17, a18, a19, a20, a21, a22, a23] (fs.map npP) [] L = some (.ok (.lst ((shiftL (n + 1) fs).map npP)) L) := by
  have z2 : 2 ≤ sizeLine := by decide
  have hc := comp_srcY (t := gTp (gCns (gNm 12) (gCns (gNm 13) gNls))) (g := eTup (aCons (eOp hAdd (eOp hAdd (eVar 3) (eC (.int 1))) (eVar 12)) (aCons (eOp hAdd (eOp hAdd (eVar 3) (eC (.int 1))) (eVar 13)) aNil))) (s := [a0, a1, a2, .val (.int n), a4, a5, a6, a7, a8, a9, a10, a11, .no, .no, a14, a15, a16, a17, a18, a19, a20, a21, a22, a23]) (L := L) (f := npP) (fun p => npP (n + 1 + p.1, n + 1 + p.2)) (xs := fs) (fun p hp => ⟨_, rfl, by
    refine Ok.eq ?_
    simp [z2, npP]⟩) (Nat.le_trans hl (by decide))
  rw [hc]
  unfold shiftL
  rw [List.map_map]
  rfl
def dearL (ws : List NP) : List NP := ws.map fun w => (w.1, 1 + w.2 % 100)
theorem comp_dear {ws : List NP} (hl : ws.length ≤ 1000) : cLoop (gTp (gCns (gNm 10) (gCns (gNm 21) gNls))) pYes (eTup (aCons (eVar 10) (aCons (eOp hAdd (eC (.int 1)) (eOp hMod (eVar 21) (eC (.int 100)))) aNil))) [a0, a1, a2, a3, a4, a5, a6, a7, a8, a9, .no, a11, a12, a13, a14, a15, a16, a17, a18, a19, a20, .no, a22, a23] (ws.map npP) [] L = some (.ok (.lst ((dearL ws).map npP)) L) := by
  have z2 : 2 ≤ sizeLine := by decide
  have hc := comp_srcY (t := gTp (gCns (gNm 10) (gCns (gNm 21) gNls))) (g := eTup (aCons (eVar 10) (aCons (eOp hAdd (eC (.int 1)) (eOp hMod (eVar 21) (eC (.int 100)))) aNil))) (s := [a0, a1, a2, a3, a4, a5, a6, a7, a8, a9, .no, a11, a12, a13, a14, a15, a16, a17, a18, a19, a20, .no, a22, a23]) (L := L) (f := npP) (fun p => npP (p.1, 1 + p.2 % 100)) (xs := ws) (fun p hp => ⟨_, rfl, by
    refine Ok.eq ?_
    simp [z2, npP]⟩) (Nat.le_trans hl (by decide))
  rw [hc]
  unfold dearL
  rw [List.map_map]
  rfl
theorem comp_great {m : Nat} {ws : List NP} (hl : ws.length ≤ 1000) (hb : ∀ w ∈ ws, w.2 ≤ 1000) (hm : m ≤ 1000) : cLoop (gTp (gCns (gNm 10) (gCns (gNm 21) gNls))) pYes (eTup (aCons (eVar 10) (aCons (eOp hMulI (eVar 21) (eVar 20)) aNil))) [a0, a1, a2, a3, a4, a5, a6, a7, a8, a9, .no, a11, a12, a13, a14, a15, a16, a17, a18, a19, .val (.int m), .no, a22, a23] (ws.map npP) [] L = some (.ok (.lst ((ws.map fun w => (w.1, w.2 * m)).map npP)) L) := by
  have z2 : 2 ≤ sizeLine := by decide
  have hc := comp_srcY (t := gTp (gCns (gNm 10) (gCns (gNm 21) gNls))) (g := eTup (aCons (eVar 10) (aCons (eOp hMulI (eVar 21) (eVar 20)) aNil))) (s := [a0, a1, a2, a3, a4, a5, a6, a7, a8, a9, .no, a11, a12, a13, a14, a15, a16, a17, a18, a19, .val (.int m), .no, a22, a23]) (L := L) (f := npP) (fun p => npP (p.1, p.2 * m)) (xs := ws) (fun p hp => ⟨_, rfl, by
    refine Ok.eq ?_
    have h1 := log2_1k (hb p hp)
    have h2 := log2_1k hm
    have h3 : p.2.log2 + m.log2 < 1000000 := by omega
    simp [z2, h3, npP]⟩) (Nat.le_trans hl (by decide))
  rw [hc, List.map_map]
  rfl
theorem comp_worth {fit : Nat → Nat → Bool} {n p : Nat} {ws cs : List NP} (h : ws.Pairwise fun a b => a.1 < b.1) (hp : PathOk fit ws n p cs) (hl : cs.length ≤ 10000) :
    ∃ us, (∀ a0 a1 a2 a3 a4 a5 a7 a8 a11 a12 a13 a14 a15 a16 a17 a18 a19 a20 a21 a22 a23, cLoop (gTp (gCns (gNm 9) (gCns (gNm 10) gNls))) pYes (eOpH (hIx false) (hE (eFrz (nCall1 (nDict false) (hE (eVar 6))))) (eVar 10)) [a0, a1, a2, a3, a4, a5, .val (.tup (ws.map npP)), a7, a8, .no, .no, a11, a12, a13, a14, a15, a16, a17, a18, a19, a20, a21, a22, a23] (cs.map npP) [] L = some (.ok (.lst us) L)) ∧ hSum L (.v (.lst us)) = some (.int (worthL ws cs)) := by
  refine ⟨cs.map fun c => .int (wOf ws c.2), fun a0 a1 a2 a3 a4 a5 a7 a8 a11 a12 a13 a14 a15 a16 a17 a18 a19 a20 a21 a22 a23 => ?_, ?_⟩
  · exact comp_srcY (t := gTp (gCns (gNm 9) (gCns (gNm 10) gNls))) (g := eOpH (hIx false) (hE (eFrz (nCall1 (nDict false) (hE (eVar 6))))) (eVar 10)) (s := [a0, a1, a2, a3, a4, a5, .val (.tup (ws.map npP)), a7, a8, .no, .no, a11, a12, a13, a14, a15, a16, a17, a18, a19, a20, a21, a22, a23]) (L := L) (f := npP)
      (fun c => .int (wOf ws c.2)) (xs := cs) (fun c hcm => ⟨_, rfl, by
        refine Ok.eq ?_
        obtain ⟨_, ⟨w, hw, e⟩, _⟩ := hp.fit_ c hcm
        have hd := dict_ws (kt := false) (L := L) h
        have hi := dictP_ix (kt := false) (L := L) h hw
        rw [e] at hi
        have e2 : wOf ws c.2 = w.2 := by rw [← e]; exact wOf_mem h hw
        rw [e2]
        simp only [eOpH_at, hE_at, eFrz_at, nCall1_at, eVar_at, bnd_ok, List.getElem?_cons_zero, List.getElem?_cons_succ, List.set_cons_zero, List.set_cons_succ, hd, ret_some, frzC_dk, Ok_bnd, Ok_ok]
        show Ok (ret (hIx false L (.v (dictP ws)) (.int c.2)) L) _
        rw [hi]
        exact Ok_ok.mpr ⟨rfl, rfl⟩⟩) (Nat.le_trans hl (by decide))
  · have em : cs.map (fun c : NP => PV.int (wOf ws c.2)) = ((cs.map fun c => wOf ws c.2).map fun (x : Nat) => (x : Int)).map PV.int := by
      rw [List.map_map, List.map_map]
      rfl
    rw [em]
    show (intsOf _).map (fun ns => PV.int ns.sum) = _
    rw [intsOf_ints]
    show some (PV.int (List.sum _)) = _
    rw [sum_cast]
    rfl
end
theorem hlaw (ns : List Int) (hn : ns.length ≤ 63) : ∃ L, g_law [.scr ns] [] = some (.ok (.bl true) L) := by
  have goal : Ok (g_law [.scr ns] []) fun v _ => v = .bl true := by
    unfold g_law
    rw [ok_def]
    unfold b_law
    have z0 : 0 ≤ sizeLine := Nat.zero_le _
    have z1 : 1 ≤ sizeLine := by decide
    have z2 : 2 ≤ sizeLine := by decide
    have z3 : 3 ≤ sizeLine := by decide
    simp [z3]
    rw [Ok_seq]
    simp
    refine ok_loop (J0 ns) ?_ ?_ _ _ _ ?_
    · rintro x r s L ⟨hT, x2, x3, x4, x5, x6, x7, x8, x9, x10, x11, x12, x13, x14, x15, x16, x17, x18, x19, x20, x21, x22, x23, rfl⟩
      refine ⟨_, rfl, ?_⟩
      rw [List.length_cons] at hT
      have hT : TT ns (200 * r.length + 200) L := hT.mono (by omega)
      generalize hm : 200 * r.length = m at hT
      rw [Ok_seqAsg]
      simp
      refine Ok.imp (draw_ok (m := m + 199) (hT.mono (by omega)) (by decide) (by decide)) ?_
      rintro v L1 ⟨⟨i, rfl, i0, i1⟩, hT⟩
      obtain ⟨n, en, n0, n1⟩ : ∃ n : Nat, 1 + i = (n : Int) ∧ 0 < n ∧ n ≤ 90 := ⟨(1 + i).toNat, by omega, by omega, by omega⟩
      simp [en]
      refine Ok.imp (draw_ok (m := m + 198) hT (by decide) (by decide)) ?_
      rintro v L2 ⟨⟨j, rfl, j0, j1⟩, hT⟩
      obtain ⟨o, eo, o0, o1⟩ : ∃ n : Nat, 1 + j = (n : Int) ∧ 0 < n ∧ n ≤ 90 := ⟨(1 + j).toNat, by omega, by omega, by omega⟩
      simp [eo, z2]
      refine Ok.imp (flaws_gen (m := m + 180) n0 (by omega) hT) ?_
      rintro v L3 ⟨⟨fs, rfl, hf, hfl⟩, hT⟩
      refine Ok.imp (wants_gen (m := m + 160) (by decide) (by decide) hT) ?_
      rintro v L4 ⟨⟨ws, rfl, hw, w1, w2⟩, hT⟩
      have hwp : ∀ w ∈ ws, 0 < w.1 := fun w h => (hw.2 w h).1
      have hof := of_ok (L := L4) hf (by omega) (by omega : n ≤ 10000) hwp
      simp [hof]
      refine Ok.imp (draw_ok (m := m + 159) (many := (n : Int)) hT (by omega) (by omega)) ?_
      rintro v L5 ⟨⟨bg, rfl, bg0, bg1⟩, hT⟩
      obtain ⟨b, rfl⟩ : ∃ b : Nat, bg = (b : Int) := ⟨bg.toNat, by omega⟩
      -- the told cuts
      obtain ⟨cs, hbest, hpath, hcl⟩ := best_ok (L := L5) (n := n) (fs := fs) (ws := ws) hf (by omega) (by omega) hwp hw.1
      obtain ⟨us, hus, hsum⟩ := comp_worth (L := L5) hw.1 hpath (by omega)
      have hw0 : worthL ws cs = valT (fitB n fs) ws n 0 := by
        have := hpath.worth
        rw [valT_n] at this
        omega
      rw [hw0] at hsum
      have it : ∀ xs, itemsOf (.tup xs) = some xs := fun _ => rfl
      have itl : ∀ xs, itemsOf (.lst xs) = some xs := fun _ => rfl
      have htu : ∀ (L : Store) ys, hTuple L (.v (.lst ys)) = some (.tup ys) := fun _ _ => rfl
      have hneI : ∀ a : Int, hNe (.int a) (.int a) = some (.bl false) := fun a => by simp
      generalize hV : valT (fitB n fs) ws n 0 = V at *
      rw [Ok_seq]
      simp [hbest, it, hus, hsum]
      -- a flaw more
      refine Ok.imp (draw_ok (m := m + 158) (many := (n : Int) - (b : Int)) hT (by omega) (by omega)) ?_
      rintro v L6 ⟨⟨d, rfl, d0, d1⟩, hT⟩
      obtain ⟨c, ec, hc1, hc2⟩ : ∃ c : Nat, (b : Int) + 1 + d = (c : Int) ∧ b < c ∧ c ≤ n := ⟨(b + 1 + d).toNat, by omega, by omega, by omega⟩
      obtain ⟨ms, hms, msm, msp, msl⟩ := srtSet_ok (fs := fs ++ [(b, c)]) (by simp; omega)
      rw [List.length_append, List.length_singleton] at msl
      have hmf : FlOk n ms := ⟨msp, fun p hp => by
        rcases List.mem_append.mp ((msm p).mp hp) with h | h
        · exact hf.2 p h
        · rw [List.mem_singleton.mp h]; exact ⟨hc1, hc2⟩⟩
      have hms' : hSrtSet (.tup (fs.map npP ++ [.tup [.int b, .int c]])) = some (.lst (ms.map npP)) := by
        rw [← hms, List.map_append]; rfl
      have b1 : fs.length + 1 ≤ sizeLine := Nat.le_trans (by omega : _ ≤ 1000) (by decide)
      have hfz : ∀ ys, frzC (.lst ys) = some (.lst ys) := fun _ => rfl
      have hmo := of_ok (L := L6) hmf (by omega) (by omega : n ≤ 10000) hwp
      have vmo := val_more hwp (n := n) (fs := fs) (fs' := ms) (fun x hx => badB_mono (fun p hp => (msm p).mpr (by simp [hp])) x hx)
      rw [hV] at vmo
      have vmo' : ¬ (V : Int) < (valT (fitB n ms) ws n 0 : Nat) := by omega
      simp [z1, z2, ec, b1, hms', hfz, htu]
      rw [Ok_seq]
      simp [hmo, vmo']
      -- turned about
      have hct := fun a0 a1 a2 a4 a5 a6 a7 a8 a9 a10 a11 a14 a15 a16 a17 a18 a19 a20 a21 a22 a23 => comp_turn (L := L6) (n := n) (fs := fs) (a0 := a0) (a1 := a1) (a2 := a2) (a4 := a4) (a5 := a5) (a6 := a6) (a7 := a7) (a8 := a8) (a9 := a9) (a10 := a10) (a11 := a11) (a14 := a14) (a15 := a15) (a16 := a16) (a17 := a17) (a18 := a18) (a19 := a19) (a20 := a20) (a21 := a21) (a22 := a22) (a23 := a23) hf.2 (by omega)
      obtain ⟨ts, hts, tsm, tsp, tsl⟩ := sortedP_ok (L := L6) (turnL n fs)
      have htf : FlOk n ts := ⟨tsp, fun p hp => turn_ok hf.2 p ((tsm p).mp hp)⟩
      have htl : ts.length = fs.length := by rw [tsl]; unfold turnL; rw [List.length_map]
      have hto := of_ok (L := L6) htf (by omega) (by omega : n ≤ 10000) hwp
      rw [val_turn hwp (fs := fs) (fs' := ts) fun x hx => (badB_same tsm x).trans (turn_bad hf.2 hx), hV] at hto
      simp [it, hct, hts, hfz, htu]
      rw [Ok_seq]
      simp [hto]
      -- another reel
      refine Ok.imp (flaws_gen (m := m + 140) o0 (by omega) (hT.mono (by omega))) ?_
      rintro v L7 ⟨⟨gs, rfl, hg, hgl⟩, hT⟩
      have hgo := of_ok (L := L7) hg (by omega) (by omega : o ≤ 10000) hwp
      have hcw := fun a0 a1 a2 a4 a5 a6 a7 a8 a9 a10 a11 a14 a15 a16 a17 a18 a19 a20 a21 a22 a23 => comp_wide (L := L7) (n := n) (fs := gs) (a0 := a0) (a1 := a1) (a2 := a2) (a4 := a4) (a5 := a5) (a6 := a6) (a7 := a7) (a8 := a8) (a9 := a9) (a10 := a10) (a11 := a11) (a14 := a14) (a15 := a15) (a16 := a16) (a17 := a17) (a18 := a18) (a19 := a19) (a20 := a20) (a21 := a21) (a22 := a22) (a23 := a23) (by omega)
      have hcb := fun a0 a1 a2 a4 a5 a6 a7 a8 a9 a10 a11 a14 a15 a16 a17 a18 a19 a20 a21 a22 a23 => comp_behind (L := L7) (n := n) (fs := gs) (a0 := a0) (a1 := a1) (a2 := a2) (a4 := a4) (a5 := a5) (a6 := a6) (a7 := a7) (a8 := a8) (a9 := a9) (a10 := a10) (a11 := a11) (a14 := a14) (a15 := a15) (a16 := a16) (a17 := a17) (a18 := a18) (a19 := a19) (a20 := a20) (a21 := a21) (a22 := a22) (a23 := a23) (by omega)
      have sl : ∀ k, (shiftL k gs).length = gs.length := fun k => by unfold shiftL; rw [List.length_map]
      have hwo := of_ok (L := L7) (n := n + o) (wide_ok hf hg) (by rw [List.length_append, sl]; omega) (by omega) hwp
      have hpo := of_ok (L := L7) (n := n + 1 + o) (part_ok hf hg) (by rw [List.length_append, List.length_append, sl]; simp; omega) (by omega) hwp
      obtain ⟨wb1, wb2⟩ := wide_bad (far := gs) hf.2
      obtain ⟨pb1, pb2, pb3⟩ := part_bad (far := gs) hf.2
      have vj := val_join hwp (n1 := n) (n2 := o) (d := 0) (A := fs) (B := gs) (C := fs ++ shiftL n gs) wb1 fun x _ => wb2 x
      have vp := val_part hwp (n1 := n) (n2 := o) (d := 1) (A := fs) (B := gs) (C := fs ++ [(n, n + 1)] ++ shiftL (n + 1) gs) (by decide) pb1 pb2 fun x _ => pb3 x
      rw [hV] at vj vp
      rw [Nat.add_zero] at vj
      rw [vp] at hpo
      generalize valT (fitB o gs) ws o 0 = V2 at hgo vj hpo
      have vj' : ¬ ((valT (fitB (n + o) (fs ++ shiftL n gs)) ws (n + o) 0 : Nat) : Int) < (V : Int) + (V2 : Int) := by omega
      generalize valT (fitB (n + o) (fs ++ shiftL n gs)) ws (n + o) 0 = V3 at hwo vj'
      have b2 : fs.length + (shiftL n gs).length ≤ sizeLine := Nat.le_trans (by rw [sl]; omega : _ ≤ 1000) (by decide)
      have b3 : fs.length + 1 + (shiftL (n + 1) gs).length ≤ sizeLine := Nat.le_trans (by rw [sl]; omega : _ ≤ 1000) (by decide)
      have hwo' : g__law_of [.int ((n : Int) + (o : Int)), .tup (fs.map npP ++ (shiftL n gs).map npP), .tup (ws.map npP)] L7 = some (.ok (.int V3) L7) := by
        rw [← List.map_append, ← hwo]; rfl
      have hpo' : g__law_of [.int ((n : Int) + 1 + (o : Int)), .tup (fs.map npP ++ .tup [.int n, .int ((n : Int) + 1)] :: (shiftL (n + 1) gs).map npP), .tup (ws.map npP)] L7 = some (.ok (.int ((V : Int) + (V2 : Int))) L7) := by
        rw [List.map_append, List.map_append, List.append_assoc] at hpo
        exact hpo
      generalize hsn : (shiftL n gs) = S1 at hcw hwo' b2
      generalize hsn1 : (shiftL (n + 1) gs) = S2 at hcb hpo' b3
      simp [it, hcw, hfz, htu, b2, hgo]
      rw [Ok_seq]
      simp [hwo', vj']
      simp [it, hcb, hfz, htu, z1, z2, b1, b3]
      rw [Ok_seq]
      simp [hpo']
      -- a want fewer
      have hsl : hSlice L7 (.v (.tup (ws.map npP))) (some 1) none = some (.tup ((ws.drop 1).map npP)) := drop_one
      have hfo := of_ok (L := L7) (n := n) (fs := fs) (ws := ws.drop 1) hf (by omega) (by omega) fun w h => hwp w (List.mem_of_mem_drop h)
      have vf := val_fewer hwp (n := n) (fs := fs) (vs := ws.drop 1) fun w h => List.mem_of_mem_drop h
      rw [hV] at vf
      generalize valT (fitB n fs) (ws.drop 1) n 0 = V4 at hfo vf
      have vf' : ¬ (V : Int) < (V4 : Int) := by omega
      generalize (ws.drop 1).map npP = W1 at hsl hfo
      rw [Ok_seq]
      refine Ok.imp (P := fun w L' => L' = L7 ∧ w = Flw.nx [.val (.scr ns), .val (.loc 0), .val x, .val (.int n), .val (.int o), .val (.tup (fs.map npP)), .val (.tup (ws.map npP)), .val (.int V), .val (.int b), x9, x10, .val (.tup (ms.map npP)), x12, x13, .val (.tup (ts.map npP)), .val (.tup (gs.map npP)), .val (.tup (fs.map npP ++ S1.map npP)), .val (.int ((V : Int) + V2)), .val (.tup (S2.map npP)), .val (.tup (fs.map npP ++ .tup [.int n, .int ((n : Int) + 1)] :: S2.map npP)), x20, x21, x22, x23]) (by
        by_cases h1 : 1 < ws.length
        · have h1' : (1 : Int) < (ws.length : Int) := by omega
          simp [h1', hsl, hfo, vf']
        · have h1' : ¬ (1 : Int) < (ws.length : Int) := by omega
          simp [h1']) ?_
      rintro _ _ ⟨rfl, rfl⟩
      -- dearer
      simp
      refine Ok.imp (draw_ok (m := m + 139) hT (by decide) (by decide)) ?_
      rintro v L8 ⟨⟨d, rfl, d0, d1⟩, hT⟩
      obtain ⟨my, emy, my1, my2⟩ : ∃ n : Nat, 1 + d = (n : Int) ∧ 1 ≤ n ∧ n ≤ 9 := ⟨(1 + d).toNat, by omega, by omega, by omega⟩
      have hcd := fun a0 a1 a2 a3 a4 a5 a6 a7 a8 a9 a11 a12 a13 a14 a15 a16 a17 a18 a19 a20 a22 a23 => comp_dear (L := L8) (ws := ws) (a0 := a0) (a1 := a1) (a2 := a2) (a3 := a3) (a4 := a4) (a5 := a5) (a6 := a6) (a7 := a7) (a8 := a8) (a9 := a9) (a11 := a11) (a12 := a12) (a13 := a13) (a14 := a14) (a15 := a15) (a16 := a16) (a17 := a17) (a18 := a18) (a19 := a19) (a20 := a20) (a22 := a22) (a23 := a23) (by omega)
      have dl : (dearL ws).length = ws.length := by unfold dearL; rw [List.length_map]
      have dp : ∀ w ∈ dearL ws, 0 < w.1 ∧ w.2 ≤ 1000 := fun w h => by
        obtain ⟨v, hv, rfl⟩ := List.mem_map.mp h
        exact ⟨hwp v hv, by dsimp only; omega⟩
      have hcg := fun a0 a1 a2 a3 a4 a5 a6 a7 a8 a9 a11 a12 a13 a14 a15 a16 a17 a18 a19 a22 a23 => comp_great (L := L8) (m := my) (ws := dearL ws) (a0 := a0) (a1 := a1) (a2 := a2) (a3 := a3) (a4 := a4) (a5 := a5) (a6 := a6) (a7 := a7) (a8 := a8) (a9 := a9) (a11 := a11) (a12 := a12) (a13 := a13) (a14 := a14) (a15 := a15) (a16 := a16) (a17 := a17) (a18 := a18) (a19 := a19) (a22 := a22) (a23 := a23) (by omega) (fun w h => (dp w h).2) (by omega)
      have hdo := of_ok (L := L8) (n := n) (fs := fs) (ws := dearL ws) hf (by omega) (by omega) fun w h => (dp w h).1
      have hgo2 := of_ok (L := L8) (n := n) (fs := fs) (ws := (dearL ws).map fun w => (w.1, w.2 * my)) hf (by omega) (by omega) fun w h => by
        obtain ⟨v, hv, rfl⟩ := List.mem_map.mp h
        exact (dp v hv).1
      rw [val_scale (fun w h => (dp w h).1) my] at hgo2
      have hVb := val_le (fitB_ok (n := n) (fs := fs) fun w h => (dp w h).1) (B := 1000) (fun w h => (dp w h).2) n (Nat.le_refl _)
      rw [Nat.sub_self] at hVb
      generalize valT (fitB n fs) (dearL ws) n 0 = V5 at hdo hgo2 hVb
      have l5 : V5.log2 < 20 := log2_b (by omega)
      have lm := log2_1k (n := my) (by omega)
      have l6 : my.log2 + V5.log2 < 1000000 := by omega
      rw [Int.natCast_mul] at hgo2
      generalize (dearL ws).map npP = D1 at hcd hcg hdo
      generalize ((dearL ws).map fun w => (w.1, w.2 * my)).map npP = D2 at hcg hgo2
      simp [emy, it, hcd, hfz, htu]
      simp [it, hcg, hfz, htu]
      simp [hgo2, hdo, l6]
      exact ⟨TL.mono hT (by omega), _, _, _, _, _, _, _, _, _, _, _, _, _, _, _, _, _, _, _, _, _, _, rfl⟩
    · rintro s L ⟨hT, x2, x3, x4, x5, x6, x7, x8, x9, x10, x11, x12, x13, x14, x15, x16, x17, x18, x19, x20, x21, x22, x23, rfl⟩
      simp
    · refine ⟨⟨ns, 0, 0, by decide, ?_, by simp, rfl⟩, _, _, _, _, _, _, _, _, _, _, _, _, _, _, _, _, _, _, _, _, _, _, rfl⟩
      simp [rgItems]
  obtain ⟨v, L, e, rfl⟩ := goal
  exact ⟨L, e⟩
end G

set_option Elab.async false
set_option linter.all false
set_option maxRecDepth 100000
set_option maxHeartbeats 4000000
namespace G
open PySem L2 Fx
/-! ### the head -/
theorem all_mk {K : PySem.W.Frag} {h : Heap} {mg : Str → Option Value} {fa : Addr} (X : K.In h) (G : h.Ns mainGlobals mg) (hfa : mg "law" = some (.ref fa))
    {f0 : Addr} {od0 an0 : Option Addr} {sl0 : Array (Option Value)} {oc0 kV0 dc0 pm0 cd0 ct0 : Value}
    (a0 : PySem.W.nsIn K mainGlobals "clear" = some (some (.ref f0))) (l0 : K.lookup f0 = some ⟨oc0, od0, .func (PySem.W.fnOf "clear" "clear" (defArgs s_clear) (defBody s_clear) (defScope s_clear) .none kV0 dc0 pm0 an0 cd0 ct0), sl0⟩) (c0 : PySem.W.codeIn K cd0 "clear" = true) (k0 : PySem.W.keepIn K (.ref f0) = true)
    {f1 : Addr} {od1 an1 : Option Addr} {sl1 : Array (Option Value)} {oc1 kV1 dc1 pm1 cd1 ct1 : Value}
    (a1 : PySem.W.nsIn K mainGlobals "fits" = some (some (.ref f1))) (l1 : K.lookup f1 = some ⟨oc1, od1, .func (PySem.W.fnOf "fits" "fits" (defArgs s_fits) (defBody s_fits) (defScope s_fits) .none kV1 dc1 pm1 an1 cd1 ct1), sl1⟩) (c1 : PySem.W.codeIn K cd1 "fits" = true) (k1 : PySem.W.keepIn K (.ref f1) = true)
    {f2 : Addr} {od2 an2 : Option Addr} {sl2 : Array (Option Value)} {oc2 kV2 dc2 pm2 cd2 ct2 : Value}
    (a2 : PySem.W.nsIn K mainGlobals "worths" = some (some (.ref f2))) (l2 : K.lookup f2 = some ⟨oc2, od2, .func (PySem.W.fnOf "worths" "worths" (defArgs s_worths) (defBody s_worths) (defScope s_worths) .none kV2 dc2 pm2 an2 cd2 ct2), sl2⟩) (c2 : PySem.W.codeIn K cd2 "worths" = true) (k2 : PySem.W.keepIn K (.ref f2) = true)
    {f3 : Addr} {od3 an3 : Option Addr} {sl3 : Array (Option Value)} {oc3 kV3 dc3 pm3 cd3 ct3 : Value}
    (a3 : PySem.W.nsIn K mainGlobals "best_cuts" = some (some (.ref f3))) (l3 : K.lookup f3 = some ⟨oc3, od3, .func (PySem.W.fnOf "best_cuts" "best_cuts" (defArgs s_best_cuts) (defBody s_best_cuts) (defScope s_best_cuts) .none kV3 dc3 pm3 an3 cd3 ct3), sl3⟩) (c3 : PySem.W.codeIn K cd3 "best_cuts" = true) (k3 : PySem.W.keepIn K (.ref f3) = true)
    {f4 : Addr} {od4 an4 : Option Addr} {sl4 : Array (Option Value)} {oc4 kV4 dc4 pm4 cd4 ct4 : Value}
    (a4 : PySem.W.nsIn K mainGlobals "cut_paper" = some (some (.ref f4))) (l4 : K.lookup f4 = some ⟨oc4, od4, .func (PySem.W.fnOf "cut_paper" "cut_paper" (defArgs s_cut_paper) (defBody s_cut_paper) (defScope s_cut_paper) .none kV4 dc4 pm4 an4 cd4 ct4), sl4⟩) (c4 : PySem.W.codeIn K cd4 "cut_paper" = true) (k4 : PySem.W.keepIn K (.ref f4) = true)
    {f5 : Addr} {od5 an5 : Option Addr} {sl5 : Array (Option Value)} {oc5 kV5 dc5 pm5 cd5 ct5 : Value}
    (a5 : PySem.W.nsIn K mainGlobals "_law_draw" = some (some (.ref f5))) (l5 : K.lookup f5 = some ⟨oc5, od5, .func (PySem.W.fnOf "_law_draw" "_law_draw" (defArgs s__law_draw) (defBody s__law_draw) (defScope s__law_draw) .none kV5 dc5 pm5 an5 cd5 ct5), sl5⟩) (c5 : PySem.W.codeIn K cd5 "_law_draw" = true) (k5 : PySem.W.keepIn K (.ref f5) = true)
    {f6 : Addr} {od6 an6 : Option Addr} {sl6 : Array (Option Value)} {oc6 kV6 dc6 pm6 cd6 ct6 : Value}
    (a6 : PySem.W.nsIn K mainGlobals "_law_flaws" = some (some (.ref f6))) (l6 : K.lookup f6 = some ⟨oc6, od6, .func (PySem.W.fnOf "_law_flaws" "_law_flaws" (defArgs s__law_flaws) (defBody s__law_flaws) (defScope s__law_flaws) .none kV6 dc6 pm6 an6 cd6 ct6), sl6⟩) (c6 : PySem.W.codeIn K cd6 "_law_flaws" = true) (k6 : PySem.W.keepIn K (.ref f6) = true)
    {f7 : Addr} {od7 an7 : Option Addr} {sl7 : Array (Option Value)} {oc7 kV7 dc7 pm7 cd7 ct7 : Value}
    (a7 : PySem.W.nsIn K mainGlobals "_law_wants" = some (some (.ref f7))) (l7 : K.lookup f7 = some ⟨oc7, od7, .func (PySem.W.fnOf "_law_wants" "_law_wants" (defArgs s__law_wants) (defBody s__law_wants) (defScope s__law_wants) .none kV7 dc7 pm7 an7 cd7 ct7), sl7⟩) (c7 : PySem.W.codeIn K cd7 "_law_wants" = true) (k7 : PySem.W.keepIn K (.ref f7) = true)
    {f8 : Addr} {od8 an8 : Option Addr} {sl8 : Array (Option Value)} {oc8 kV8 dc8 pm8 cd8 ct8 : Value}
    (a8 : PySem.W.nsIn K mainGlobals "_law_of" = some (some (.ref f8))) (l8 : K.lookup f8 = some ⟨oc8, od8, .func (PySem.W.fnOf "_law_of" "_law_of" (defArgs s__law_of) (defBody s__law_of) (defScope s__law_of) .none kV8 dc8 pm8 an8 cd8 ct8), sl8⟩) (c8 : PySem.W.codeIn K cd8 "_law_of" = true) (k8 : PySem.W.keepIn K (.ref f8) = true)
    {f9 : Addr} {od9 an9 : Option Addr} {sl9 : Array (Option Value)} {oc9 kV9 dc9 pm9 cd9 ct9 : Value}
    (a9 : PySem.W.nsIn K mainGlobals "law" = some (some (.ref f9))) (l9 : K.lookup f9 = some ⟨oc9, od9, .func (PySem.W.fnOf "law" "law" (defArgs s_law) (defBody s_law) (defScope s_law) .none kV9 dc9 pm9 an9 cd9 ct9), sl9⟩) (c9 : PySem.W.codeIn K cd9 "law" = true) (k9 : PySem.W.keepIn K (.ref f9) = true)
    (z_any : PySem.W.nsIn K mainGlobals "any" = some none)
    (z_dict : PySem.W.nsIn K mainGlobals "dict" = some none)
    (z_len : PySem.W.nsIn K mainGlobals "len" = some none)
    (z_list : PySem.W.nsIn K mainGlobals "list" = some none)
    (z_max : PySem.W.nsIn K mainGlobals "max" = some none)
    (z_min : PySem.W.nsIn K mainGlobals "min" = some none)
    (z_range : PySem.W.nsIn K mainGlobals "range" = some none)
    (z_set : PySem.W.nsIn K mainGlobals "set" = some none)
    (z_sorted : PySem.W.nsIn K mainGlobals "sorted" = some none)
    (z_sum : PySem.W.nsIn K mainGlobals "sum" = some none)
    (z_tuple : PySem.W.nsIn K mainGlobals "tuple" = some none)
    : ∃ T : Tx K mg, T.a_law = fa ∧ ∀ (s : Shared) (v : Value), BindsTo s T.d_law ⟨[v], []⟩ [("script", v)] := by
  have e := hfa.symm.trans (PySem.W.mg_of X G a9)
  cases e
  have F0 := fun_mk (st := s_clear) l0 c0 k0
  have b0 := F0.binds (ps := ["length", "flaws"]) fun _ _ _ _ _ _ us hl => match us, hl with | [_, _], _ => rfl
  have F1 := fun_mk (st := s_fits) l1 c1 k1
  have b1 := F1.binds (ps := ["stretches", "begin", "roll"]) fun _ _ _ _ _ _ us hl => match us, hl with | [_, _, _], _ => rfl
  have F2 := fun_mk (st := s_worths) l2 c2 k2
  have b2 := F2.binds (ps := ["length", "flaws", "wants"]) fun _ _ _ _ _ _ us hl => match us, hl with | [_, _, _], _ => rfl
  have F3 := fun_mk (st := s_best_cuts) l3 c3 k3
  have b3 := F3.binds (ps := ["length", "flaws", "wants"]) fun _ _ _ _ _ _ us hl => match us, hl with | [_, _, _], _ => rfl
  have F4 := fun_mk (st := s_cut_paper) l4 c4 k4
  have b4 := F4.binds (ps := ["length", "flaws", "wants"]) fun _ _ _ _ _ _ us hl => match us, hl with | [_, _, _], _ => rfl
  have F5 := fun_mk (st := s__law_draw) l5 c5 k5
  have b5 := F5.binds (ps := ["tape", "many"]) fun _ _ _ _ _ _ us hl => match us, hl with | [_, _], _ => rfl
  have F6 := fun_mk (st := s__law_flaws) l6 c6 k6
  have b6 := F6.binds (ps := ["tape", "length"]) fun _ _ _ _ _ _ us hl => match us, hl with | [_, _], _ => rfl
  have F7 := fun_mk (st := s__law_wants) l7 c7 k7
  have b7 := F7.binds (ps := ["tape", "length"]) fun _ _ _ _ _ _ us hl => match us, hl with | [_, _], _ => rfl
  have F8 := fun_mk (st := s__law_of) l8 c8 k8
  have b8 := F8.binds (ps := ["size", "some", "sorts"]) fun _ _ _ _ _ _ us hl => match us, hl with | [_, _, _], _ => rfl
  have F9 := fun_mk (st := s_law) l9 c9 k9
  have b9 := F9.binds (ps := ["script"]) fun _ _ _ _ _ _ us hl => match us, hl with | [_], _ => rfl
  exact ⟨⟨PySem.W.mg_none_of X G z_any, PySem.W.mg_none_of X G z_dict, PySem.W.mg_none_of X G z_len, PySem.W.mg_none_of X G z_list, PySem.W.mg_none_of X G z_max, PySem.W.mg_none_of X G z_min, PySem.W.mg_none_of X G z_range, PySem.W.mg_none_of X G z_set, PySem.W.mg_none_of X G z_sorted, PySem.W.mg_none_of X G z_sum, PySem.W.mg_none_of X G z_tuple, f0, _, F0, PySem.W.mg_of X G a0, k0, b0, f1, _, F1, PySem.W.mg_of X G a1, k1, b1, f2, _, F2, PySem.W.mg_of X G a2, k2, b2, f3, _, F3, PySem.W.mg_of X G a3, k3, b3, f4, _, F4, PySem.W.mg_of X G a4, k4, b4, f5, _, F5, PySem.W.mg_of X G a5, k5, b5, f6, _, F6, PySem.W.mg_of X G a6, k6, b6, f7, _, F7, PySem.W.mg_of X G a7, k7, b7, f8, _, F8, PySem.W.mg_of X G a8, k8, b8, fa, _, F9, PySem.W.mg_of X G a9, k9, b9⟩, rfl, fun s v => .of_eq rfl⟩
theorem walk {l : PySem.W.OpenLaw} {q : Program} {loose : List Str} {XP : (Str → Option Value) → Heap → Prop} {YP : World → Heap → Prop} {d : DefRec} {K : Params → PySem.W.Frag} (hn : l.most = some 63) (hdf : d.params.defaults = [])
    (hY : ∀ (w : World) (h : Heap), YP w h → (K w.params).In h)
    (F : ∀ (w : World) (mg : Str → Option Value) (fa : Addr) (h : Heap), (K w.params).In h → h.Ns mainGlobals mg → mg d.name = some (.ref fa) →
      ∃ T : Tx (K w.params) mg, T.a_law = fa ∧ ∀ (s : Shared) (v : Value), BindsTo s T.d_law ⟨[v], []⟩ [("script", v)]) :
    PySem.W.WalkO q loose XP YP l.row.toRowW d [] (fun f vs => PySem.call f vs) :=
  L2.walk_of (n := 63) (k := 5) (x := "script") (CX := fun _ => CX0) (sp := fun w => spEnd (K w.params) g_law) hn (by decide) hdf ⟨rfl, by decide, by decide⟩ hY
    (fun w mg fa h hK hG hm => by
      obtain ⟨T, e, hb⟩ := F w mg fa h hK hG hm
      subst e
      exact ⟨T.d_law, hb, fun base _ _ => end_lawE (ok_law T)⟩)
    (fun _ H a ns hl ho hS => by
      obtain ⟨L, e⟩ := hlaw ns hl
      exact ⟨a, ns, L, rfl, ho, hS, e, fun _ => rfl⟩) fun _ _ _ _ _ z => z
end G
open PySem PySem.W PyProof.Rows in
set_option maxRecDepth 100000 in
set_option maxHeartbeats 0 in
theorem PySem.Challenge.cw_pulpreel_k13_whole_reels_turned_parted_a_holds : PySem.Challenge.rw_pulpreel_k13_whole_reels_turned_parted_a.Holds := by
  w_on; o_law; k_head; (case hw => w_witness2)
  k_fill
  refine G.walk (l := PySem.Challenge.rw_pulpreel_k13_whole_reels_turned_parted_a) rfl rfl (fun w h Y => PySem.W.kIn_of Y) ?F
  case F =>
    intro w mg fa h KX GN hmg
    refine' G.all_mk KX GN hmg ?a0 ?l0 ?c0 ?k0 ?a1 ?l1 ?c1 ?k1 ?a2 ?l2 ?c2 ?k2 ?a3 ?l3 ?c3 ?k3 ?a4 ?l4 ?c4 ?k4 ?a5 ?l5 ?c5 ?k5 ?a6 ?l6 ?c6 ?k6 ?a7 ?l7 ?c7 ?k7 ?a8 ?l8 ?c8 ?k8 ?a9 ?l9 ?c9 ?k9 ?z_any ?z_dict ?z_len ?z_list ?z_max ?z_min ?z_range ?z_set ?z_sorted ?z_sum ?z_tuple
    (case a0 => k_is)
    (case l0 => k_is)
    (case c0 => k_is)
    (case k0 => k_is)
    (case a1 => k_is)
    (case l1 => k_is)
    (case c1 => k_is)
    (case k1 => k_is)
    (case a2 => k_is)
    (case l2 => k_is)
    (case c2 => k_is)
    (case k2 => k_is)
    (case a3 => k_is)
    (case l3 => k_is)
    (case c3 => k_is)
    (case k3 => k_is)
    (case a4 => k_is)
    (case l4 => k_is)
    (case c4 => k_is)
    (case k4 => k_is)
    (case a5 => k_is)
    (case l5 => k_is)
    (case c5 => k_is)
    (case k5 => k_is)
    (case a6 => k_is)
    (case l6 => k_is)
    (case c6 => k_is)
    (case k6 => k_is)
    (case a7 => k_is)
    (case l7 => k_is)
    (case c7 => k_is)
    (case k7 => k_is)
    (case a8 => k_is)
    (case l8 => k_is)
    (case c8 => k_is)
    (case k8 => k_is)
    (case a9 => k_is)
    (case l9 => k_is)
    (case c9 => k_is)
    (case k9 => k_is)
    (case z_any => k_is)
    (case z_dict => k_is)
    (case z_len => k_is)
    (case z_list => k_is)
    (case z_max => k_is)
    (case z_min => k_is)
    (case z_range => k_is)
    (case z_set => k_is)
    (case z_sorted => k_is)
    (case z_sum => k_is)
    (case z_tuple => k_is)
#print axioms PySem.Challenge.cw_pulpreel_k13_whole_reels_turned_parted_a_holds

