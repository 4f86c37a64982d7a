import PyProof.Rows.All
import Wide.All
import OpenK.AllK
import Wide.FinOn
import HandS.ForMost
import HandS.IsInst
import HandS.Wide
import HandS.Exc
import HandS.DictComp
import HandS.SortOrd
import HandS.TupSets
import HandS.DeepEq
import HandS.Deep
import HandS.Style
import HandS.Flow
import HandS.Zip
import HandS.TupAny
import KE.KDictPairs
import HandS.TupMul
import HandS.More
import HandS.Text
import HandS.NoneIn
import HandS.Defaults
import HandS.EndBits
import KE.KSortedM
import HandS.SortInts
import HandS.Conv
import KE.KxMul
import HandS.Iter
import PySem.Challenge.RW_pulpreel_k05_whole_between_two_mixtures
set_option Elab.async false
set_option linter.all false
set_option maxRecDepth 100000
set_option maxHeartbeats 1000000
/-! Fx part 0: new tuples, held as they are made; dict(pairs) of such a tuple. -/
namespace FT
open PySem PySem.Spec PyProof.Rows L2 HT
/-- ints and texts alone, one at least: such may be a dict's key -/
def plK (xs : List V) : Bool := !xs.isEmpty && xs.all fun v => match v with
  | .int _ => true
  | .str _ => true
  | _ => false
def frzT (m : Bool) (xs : List V) : Bool := m || !plK xs
/-- how a new tuple is held: plainly, where it may be a key (and not m); else as the very object that it is, which has no dict of its own -/
def TObj (m : Bool) (xs : List V) (u : HO) : Prop := if frzT m xs = true then ∃ o : Obj, o.dict = none ∧ u = .frz o (.tup xs) else u = .tup xs
def mkT (m : Bool) (o : Obj) (xs : List V) : HO := if frzT m xs = true then .frz o (.tup xs) else .tup xs
theorem mkT_obj {m : Bool} {o : Obj} {xs : List V} (h : o.dict = none) : TObj m xs (mkT m o xs) := by
  unfold TObj mkT
  cases frzT m xs
  · rfl
  · exact ⟨o, h, rfl⟩
theorem mkT_ok {P : Program} {w : World} {H : Hp} {h : Heap} {a : Addr} {m : Bool} {o : Obj} {xs : List V} {its : List Value} {n : Nat} (e : h.get? a = some o) (hc : o.cls = .type "tuple") (hd : o.data = .seq its.toArray n) (r : Vals xs its) (z : xs.length ≤ sizeLine) : ObjOk P w H h a (mkT m o xs) := by
  unfold mkT
  cases frzT m xs
  · exact ⟨z, its, r, ⟨o, e, hc, n, hd⟩⟩
  · exact ⟨e, z, its, r, ⟨o, e, hc, n, hd⟩⟩
section
variable {X : Cx} {es : List Expr} {t : TA} {pos : Pos}
def tTupM (m : Bool) (t : TA) : TE := fun σ H Q => t σ H fun xs H1 => xs.length ≤ sizeLine ∧ ∀ p u, H1 p = none → TObj m xs u → Q (.ref p) (upd H1 p u)
theorem pe_tupM {m : Bool} {x1} (h : PA X es t) : PE X (.Tuple es x1 pos) (tTupM m t) := by
  refine ⟨fun pins s σ H Q I hq => ?_⟩
  refine wpAny_Tuple_spliced (thn (h.run pos pins s σ H _ I hq) fun us s1 ⟨xs, H1, I1, r, z, q⟩ => ⟨by rw [← r.length]; exact z, ?_⟩)
  have hf : H1 s1.heap.objs.size = none := I1.hok.fresh (Nat.le_refl _)
  refine ⟨.ref s1.heap.objs.size, _, I1.laid (t' := s1.toks) (o := mkT m { cls := .type "tuple", data := .seq us.toArray } xs) (fun b u e => Heap.get?_push_of_some _ e) (Nat.le_refl _) ?_, rfl, q _ _ hf (mkT_obj rfl)⟩
  exact mkT_ok (Heap.get?_push_size _ rfl) rfl rfl r z
theorem call_tupleM {m : Bool} : CallR X (.type "tuple") (fun xs H Q => ∃ p ys, xs = [.ref p] ∧ ((SqL X.K H p ys ∧ ∀ l u, H l = none → TObj m ys u → Q (.ref l) (upd H l u)) ∨ (SqT X.K H p ys ∧ Q (.ref p) H))) := by
  intro pins s σ H xs us Q I r h
  obtain ⟨p, ys, rfl, h⟩ := h
  obtain ⟨u, rfl, rx⟩ := vals1 r
  cases rx
  rcases h with ⟨hq, q⟩ | ⟨hq, q⟩
  · obtain ⟨its, r', pl, hz⟩ := I.list hq
    have hlen := r'.length
    refine call_tuple_list pl.isList (fun h' kp => ?_) (by simp only [List.size_toArray] <;> omega)
    have I1 : Inv X pins σ H { s with heap := h' } := I.kept (t' := s.toks) kp
    exact ⟨.ref h'.objs.size, _, I1.laid (t' := s.toks) (o := mkT m { cls := .type "tuple", data := .seq its.toArray } ys) (fun b o e => Heap.get?_push_of_some _ e) (Nat.le_refl _) (mkT_ok (Heap.get?_push_size _ rfl) rfl rfl r' hz), rfl, q _ _ (I1.hok.fresh (Nat.le_refl _)) (mkT_obj rfl)⟩
  · obtain ⟨its, r', pl, hz⟩ := I.tuple hq
    exact call_tuple_same pl ⟨.ref p, H, I, rfl, q⟩
def rCatM (m : Bool) (K : PySem.W.Frag) : R2 := fun x y H Q => ∃ a b xs ys, x = .ref a ∧ y = .ref b ∧ SqT K H a xs ∧ SqT K H b ys ∧ xs.length + ys.length ≤ sizeLine ∧
  (xs = [] → Q (.ref b) H) ∧ (xs ≠ [] → ys = [] → Q (.ref a) H) ∧ (xs ≠ [] → ys ≠ [] → ∀ p u, H p = none → TObj m (xs ++ ys) u → Q (.ref p) (upd H p u))
theorem op_catM {m : Bool} : OpR X (binaryOp .Add) (rCatM m X.K) := by
  intro pins s σ H x y v u Q I rx ry h
  obtain ⟨a, b, xs, ys, rfl, rfl, ha, hb, hz, q0, q1, q2⟩ := h
  by_cases hx : xs = []
  · exact op_catA pins s σ H _ _ v u Q I rx ry ⟨a, b, xs, ys, rfl, rfl, ha, hb, hz, q0, fun n => absurd hx n, fun n => absurd hx n⟩
  · cases rx
    cases ry
    obtain ⟨its, r1, p1, _⟩ := I.tuple ha
    obtain ⟨its2, r2, p2, _⟩ := I.tuple hb
    refine HT.cat_tup p1 p2 (fun z => hx (r1.nil_iff.mp z)) (fun z => ⟨.ref a, H, I, rfl, q1 hx (r2.nil_iff.mp z)⟩) (fun z => ?_) (by rw [← r1.length, ← r2.length]; exact hz)
    refine ⟨.ref s.heap.objs.size, _, I.laid (t' := s.toks) (o := mkT m { cls := .type "tuple", data := .seq (its ++ its2).toArray } (xs ++ ys)) (fun b ob q => Heap.get?_push_of_some _ q) (Nat.le_refl _) ?_, rfl, q2 hx (fun w => z (r2.nil_iff.mpr w)) _ _ (I.hok.fresh (Nat.le_refl _)) (mkT_obj rfl)⟩
    exact mkT_ok (Heap.get?_push_size _ rfl) rfl rfl (r1.append r2) (by rw [List.length_append]; exact hz)
def rSlM (m : Bool) (K : PySem.W.Frag) : V → Option Int → Option Int → Hp → VK → Prop := fun x lo hi H Q => ∃ a xs, x = .ref a ∧ SqT K H a xs ∧
  (HT.sIx xs.length 0 lo = 0 ∧ HT.sIx xs.length xs.length hi = xs.length → Q (.ref a) H) ∧ (¬ (HT.sIx xs.length 0 lo = 0 ∧ HT.sIx xs.length xs.length hi = xs.length) → ∀ p u, H p = none → TObj m (cutV xs lo hi) u → Q (.ref p) (upd H p u))
theorem sl_tupM {m : Bool} : SlR X (rSlM m X.K) := by
  intro pins s σ H x v vl vu lo hi sl Q I rx hs pl pu h
  obtain ⟨a, xs, rfl, hx, q1, q2⟩ := h
  by_cases hw : HT.sIx xs.length 0 lo = 0 ∧ HT.sIx xs.length xs.length hi = xs.length
  · exact sl_tupA pins s σ H _ v vl vu lo hi sl Q I rx hs pl pu ⟨a, xs, rfl, hx, q1, fun n => absurd hw n⟩
  · cases rx
    obtain ⟨its, r, ht, hz⟩ := I.tuple hx
    have hlen : its.toArray.size = xs.length := by rw [List.size_toArray]; exact r.length.symm
    refine ⟨"tuple", _, PyProof.Rows.slot_tuple_getitem.lookup, ht.typeIs, ?_⟩
    refine HT.getItem_tuple_cut ht hs pl pu (by rw [hlen]; exact hw) ?_ (by rw [hlen]; exact hz)
    rw [hlen]
    refine ⟨.ref s.heap.objs.size, _, I.laid (t' := s.toks) (o := mkT m _ (cutV xs lo hi)) (fun b ob q => Heap.get?_push_of_some _ q) (Nat.le_refl _) (mkT_ok (Heap.get?_push_size _ rfl) rfl rfl ((r.drop (HT.sIx xs.length 0 lo)).take (HT.sIx xs.length xs.length hi - HT.sIx xs.length 0 lo)) (Nat.le_trans (cutV_length xs lo hi) hz)), rfl, q2 hw _ _ (I.hok.fresh (Nat.le_refl _)) (mkT_obj rfl)⟩
end
end FT

set_option Elab.async false
set_option linter.all false
set_option maxRecDepth 100000
/-! Fx: pure readings over the hand layer. Part 1: values, the store, the state, the judgements. -/
namespace Fx
open PySem L2

/-- pure values -/
inductive PV where
  | non | bl (b : Bool) | int (i : Int) | str (x : Str)
  | tup (xs : List PV) | lst (xs : List PV)
  | dk (ks : List Key) (vs : List PV) | dt (ks : List (List Key)) (vs : List PV)
  | loc (n : Nat)
  | scr (ns : List Int)

/-- what stands in a mutable object -/
inductive Cell where
  | lst (xs : List PV)
  | dk (kvs : List (Key × PV)) | dt (kvs : List (List Key × PV))
  | ins (C : Str) (fs : List (Str × PV))

abbrev Store := List Cell
/-- a slot: nothing, a value, a mutable object of the frame's own -/
inductive SV where
  | no | val (v : PV) | own (c : Cell)
abbrev Slots := List SV

/-- an exception: its class, its one field -/
structure PX where
  cls : Str
  fld : Option PV

inductive Res (α : Type) where
  | ok (a : α) (L : Store)
  | err (x : PX) (L : Store)

abbrev FF (α : Type) := Slots → Store → Option (Res α)
abbrev EF := FF PV
abbrev BF := FF Bool
abbrev AF := FF (List PV)
abbrev CF := FF Cell

/-- how a block ends -/
inductive Flw where
  | nx (s : Slots) | rt (v : PV) | bk (s : Slots) | ct (s : Slots)
abbrev SF := FF Flw

/-- what the text has -/
structure Gx where
  K : PySem.W.Frag
  mg : Str → Option Value
  kt : Bool

/-- a tuple of the written part -/
def KTup (K : PySem.W.Frag) (a : Addr) (xs : List V) : Prop :=
  ∃ (o : Obj) (its : Array Value) (n : Nat), K.lookup a = some o ∧ o.cls = .type "tuple" ∧ o.dict = none ∧ o.data = .seq its n ∧ its.size ≤ sizeLine ∧ Vals xs its.toList

/-- a list of the written part -/
def KLst (K : PySem.W.Frag) (a : Addr) (xs : List V) : Prop :=
  ∃ (o : Obj) (its : Array Value) (n : Nat), K.lookup a = some o ∧ o.cls = .type "list" ∧ o.dict = none ∧ o.data = .seq its n ∧ its.size ≤ sizeLine ∧ Vals xs its.toList

/-- a tuple's object: held plainly where it may be a dict's key and no written tuples occur (kt); else one that has no dict of its own -/
def TupAt (G : Gx) (ρ : List Addr) (H : Hp) (a : Addr) (vs : List V) : Prop := (FT.frzT G.kt vs = false ∧ H a = some (.tup vs)) ∨ (FT.frzT G.kt vs = true ∧ ((a ∉ ρ ∧ ∃ o : Obj, o.dict = none ∧ H a = some (.frz o (.tup vs))) ∨ (G.kt = true ∧ KTup G.K a vs)))
mutual
def Rep (G : Gx) (ρ : List Addr) (H : Hp) : PV → V → Prop
  | .non, v => v = .non
  | .bl b, v => v = .bl b
  | .int i, v => v = .int i
  | .str x, v => v = .str x
  | .tup xs, v => ∃ a vs, v = .ref a ∧ TupAt G ρ H a vs ∧ Reps G ρ H xs vs
  | .lst xs, v => ∃ a o vs, v = .ref a ∧ a ∉ ρ ∧ H a = some (.frz o (.lst vs)) ∧ Reps G ρ H xs vs
  | .dk ks xs, v => ∃ a o l, v = .ref a ∧ a ∉ ρ ∧ H a = some (.frz o (.dK l)) ∧ l.map (·.1) = ks ∧ Reps G ρ H xs (l.map (·.2))
  | .dt ks xs, v => ∃ a o l, v = .ref a ∧ a ∉ ρ ∧ H a = some (.frz o (.dT l)) ∧ l.map (·.1) = ks ∧ Reps G ρ H xs (l.map (·.2))
  | .loc n, v => ∃ a, v = .ref a ∧ ρ[n]? = some a
  | .scr ns, v => ∃ a, v = .ref a ∧ ((a ∉ ρ ∧ ∃ o, H a = some (.frz o (.lst (ns.map V.int)))) ∨ KLst G.K a (ns.map V.int))
def Reps (G : Gx) (ρ : List Addr) (H : Hp) : List PV → List V → Prop
  | [], vs => vs = []
  | x :: xs, vs => ∃ v r, vs = v :: r ∧ Rep G ρ H x v ∧ Reps G ρ H xs r
end

/-- a mutable object's content -/
def CRep (G : Gx) (ρ : List Addr) (H : Hp) (a : Addr) : Cell → Prop
  | .lst xs => ∃ vs, H a = some (.lst vs) ∧ Reps G ρ H xs vs
  | .dk kvs => ∃ l, H a = some (.dK l) ∧ l.map (·.1) = kvs.map (·.1) ∧ Reps G ρ H (kvs.map (·.2)) (l.map (·.2))
  | .dt kvs => ∃ l, H a = some (.dT l) ∧ l.map (·.1) = kvs.map (·.1) ∧ Reps G ρ H (kvs.map (·.2)) (l.map (·.2))
  | .ins C fs => ∃ c dx l, H a = some (.ins c dx l) ∧ G.mg C = some (.ref c) ∧ l.map (·.1) = fs.map (·.1) ∧ Reps G ρ H (fs.map (·.2)) (l.map (·.2))

/-- what stays whatever is done: what cannot change -/
structure Stb (ρ ρ' : List Addr) (H H' : Hp) : Prop where
  pre : ∃ new, ρ' = ρ ++ new ∧ ∀ a ∈ new, H a = none
  there : ∀ a o, H a = some o → ∃ o', H' a = some o'
  tup : ∀ a xs, H a = some (.tup xs) → H' a = some (.tup xs)
  frz : ∀ a o u, a ∉ ρ → H a = some (.frz o u) → H' a = some (.frz o u)
/-- behind an expression, a call: all but the store's objects stays -/
structure Ext (ρ ρ' : List Addr) (H H' : Hp) : Prop extends Stb ρ ρ' H H' where
  keep : ∀ a o, a ∉ ρ → H a = some o → H' a = some o

theorem Stb.refl {ρ : List Addr} {H : Hp} : Stb ρ ρ H H := ⟨⟨[], by simp, by simp⟩, fun _ o e => ⟨o, e⟩, fun _ _ e => e, fun _ _ _ _ e => e⟩
theorem Ext.refl {ρ : List Addr} {H : Hp} : Ext ρ ρ H H := ⟨Stb.refl, fun _ _ _ e => e⟩
theorem Stb.notin {ρ ρ' : List Addr} {H H' : Hp} (e : Stb ρ ρ' H H') {a : Addr} {o : HO} (h : a ∉ ρ) (ha : H a = some o) : a ∉ ρ' := by
  obtain ⟨new, rfl, hn⟩ := e.pre
  intro hm
  rcases List.mem_append.mp hm with h1 | h1
  · exact h h1
  · rw [hn a h1] at ha; cases ha
theorem Stb.trans {ρ ρ1 ρ2 : List Addr} {H H1 H2 : Hp} (e : Stb ρ ρ1 H H1) (f : Stb ρ1 ρ2 H1 H2) : Stb ρ ρ2 H H2 := by
  refine ⟨?_, fun a o h => ?_, fun a xs h => f.tup a xs (e.tup a xs h), fun a o u hn h => f.frz a o u (e.notin hn h) (e.frz a o u hn h)⟩
  · obtain ⟨n1, rfl, h1⟩ := e.pre
    obtain ⟨n2, rfl, h2⟩ := f.pre
    refine ⟨n1 ++ n2, by simp, fun a ha => ?_⟩
    rcases List.mem_append.mp ha with h | h
    · exact h1 a h
    · cases q : H a with
      | none => rfl
      | some o =>
        obtain ⟨o', e'⟩ := e.there a o q
        rw [h2 a h] at e'; cases e'
  · obtain ⟨o', h'⟩ := e.there a o h
    exact f.there a o' h'
theorem Ext.trans {ρ ρ1 ρ2 : List Addr} {H H1 H2 : Hp} (e : Ext ρ ρ1 H H1) (f : Ext ρ1 ρ2 H1 H2) : Ext ρ ρ2 H H2 :=
  ⟨e.toStb.trans f.toStb, fun a o hn h => f.keep a o (e.notin hn h) (e.keep a o hn h)⟩
/-- a new object -/
theorem Ext.new {ρ : List Addr} {H : Hp} {p : Addr} {u : HO} (hp : H p = none) : Ext ρ ρ H (upd H p u) := by
  have k : ∀ a o, H a = some o → upd H p u a = some o := fun a o h => by rw [upd_ne (ne_of_none h hp)]; exact h
  exact ⟨⟨⟨[], by simp, by simp⟩, fun a o h => ⟨o, k a o h⟩, fun a xs h => k _ _ h, fun a o u _ h => k _ _ h⟩, fun a o _ h => k _ _ h⟩
theorem Ext.same {ρ : List Addr} {H H' : Hp} (k : ∀ a o, H a = some o → H' a = some o) : Ext ρ ρ H H' :=
  ⟨⟨⟨[], by simp, by simp⟩, fun a o h => ⟨o, k a o h⟩, fun a xs h => k _ _ h, fun a o u _ h => k _ _ h⟩, fun a o _ h => k _ _ h⟩

/-- what the values lean on -/
structure Stb0 (ρ ρ' : List Addr) (H H' : Hp) : Prop where
  pre : ∃ new, ρ' = ρ ++ new
  tup : ∀ a xs, H a = some (.tup xs) → H' a = some (.tup xs)
  frz : ∀ a o u, a ∉ ρ → H a = some (.frz o u) → a ∉ ρ' ∧ H' a = some (.frz o u)
theorem Stb.to0 {ρ ρ' : List Addr} {H H' : Hp} (e : Stb ρ ρ' H H') : Stb0 ρ ρ' H H' := ⟨let ⟨n, h, _⟩ := e.pre; ⟨n, h⟩, e.tup, fun a o u hn h => ⟨e.notin hn h, e.frz a o u hn h⟩⟩
/-- a mutable object comes into the store -/
theorem Stb0.grow {ρ : List Addr} {H : Hp} {p : Addr} {w : HO} (h : H p = some w) (mu : Mut (some w)) : Stb0 ρ (ρ ++ [p]) H H := by
  refine ⟨⟨[p], rfl⟩, fun _ _ e => e, fun a o u hn e => ⟨fun z => ?_, e⟩⟩
  rcases List.mem_append.mp z with q | q
  · exact hn q
  · obtain rfl : a = p := by simpa using q
    rw [h] at e; cases e; exact mu
theorem TupAt.mono0 {G : Gx} {ρ ρ' : List Addr} {H H' : Hp} {a : Addr} {vs : List V} (e : Stb0 ρ ρ' H H') (h : TupAt G ρ H a vs) : TupAt G ρ' H' a vs := by
  rcases h with ⟨k, h⟩ | ⟨k, ⟨hn, o, hd, h⟩ | h⟩
  · exact .inl ⟨k, e.tup a vs h⟩
  · exact .inr ⟨k, .inl ⟨(e.frz _ _ _ hn h).1, o, hd, (e.frz _ _ _ hn h).2⟩⟩
  · exact .inr ⟨k, .inr h⟩
mutual
theorem Rep.mono0 {G : Gx} {ρ ρ' : List Addr} {H H' : Hp} (e : Stb0 ρ ρ' H H') : ∀ {x : PV} {v : V}, Rep G ρ H x v → Rep G ρ' H' x v
  | .non, v, h => h
  | .bl b, v, h => h
  | .int i, v, h => h
  | .str x, v, h => h
  | .tup xs, v, h => by
    obtain ⟨a, vs, rfl, h1, h2⟩ := h
    exact ⟨a, vs, rfl, h1.mono0 e, Reps.mono0 e h2⟩
  | .lst xs, v, h => by
    obtain ⟨a, o, vs, rfl, hn, h1, h2⟩ := h
    exact ⟨a, o, vs, rfl, (e.frz _ _ _ hn h1).1, (e.frz _ _ _ hn h1).2, Reps.mono0 e h2⟩
  | .dk ks xs, v, h => by
    obtain ⟨a, o, l, rfl, hn, h1, h2, h3⟩ := h
    exact ⟨a, o, l, rfl, (e.frz _ _ _ hn h1).1, (e.frz _ _ _ hn h1).2, h2, Reps.mono0 e h3⟩
  | .dt ks xs, v, h => by
    obtain ⟨a, o, l, rfl, hn, h1, h2, h3⟩ := h
    exact ⟨a, o, l, rfl, (e.frz _ _ _ hn h1).1, (e.frz _ _ _ hn h1).2, h2, Reps.mono0 e h3⟩
  | .loc n, v, h => by
    obtain ⟨a, rfl, h1⟩ := h
    obtain ⟨new, rfl⟩ := e.pre
    exact ⟨a, rfl, by rw [List.getElem?_append_left (List.getElem?_eq_some_iff.mp h1).1]; exact h1⟩
  | .scr ns, v, h => by
    obtain ⟨a, rfl, h1⟩ := h
    refine ⟨a, rfl, h1.imp (fun ⟨hn, o, h⟩ => ⟨(e.frz _ _ _ hn h).1, o, (e.frz _ _ _ hn h).2⟩) fun q => q⟩
theorem Reps.mono0 {G : Gx} {ρ ρ' : List Addr} {H H' : Hp} (e : Stb0 ρ ρ' H H') : ∀ {xs : List PV} {vs : List V}, Reps G ρ H xs vs → Reps G ρ' H' xs vs
  | [], vs, h => h
  | x :: xs, vs, h => by
    obtain ⟨v, r, rfl, h1, h2⟩ := h
    exact ⟨v, r, rfl, Rep.mono0 e h1, Reps.mono0 e h2⟩
end
theorem Rep.mono {G : Gx} {ρ ρ' : List Addr} {H H' : Hp} (e : Stb ρ ρ' H H') {x : PV} {v : V} (h : Rep G ρ H x v) : Rep G ρ' H' x v := h.mono0 e.to0
theorem Reps.mono {G : Gx} {ρ ρ' : List Addr} {H H' : Hp} (e : Stb ρ ρ' H H') {xs : List PV} {vs : List V} (h : Reps G ρ H xs vs) : Reps G ρ' H' xs vs := h.mono0 e.to0
theorem Reps.nil {G : Gx} {ρ : List Addr} {H : Hp} : Reps G ρ H [] [] := rfl
theorem Reps.cons {G : Gx} {ρ : List Addr} {H : Hp} {x : PV} {v : V} {xs : List PV} {vs : List V} (h : Rep G ρ H x v) (t : Reps G ρ H xs vs) : Reps G ρ H (x :: xs) (v :: vs) := ⟨v, vs, rfl, h, t⟩
theorem Reps.length {G : Gx} {ρ : List Addr} {H : Hp} : ∀ {xs : List PV} {vs : List V}, Reps G ρ H xs vs → xs.length = vs.length
  | [], _, h => by rw [show _ = [] from h]; rfl
  | x :: xs, vs, h => by
    obtain ⟨v, r, rfl, _, h2⟩ := h
    simp [Reps.length h2]
theorem Reps.get {G : Gx} {ρ : List Addr} {H : Hp} : ∀ {xs : List PV} {vs : List V} {i : Nat} {x : PV}, Reps G ρ H xs vs → xs[i]? = some x → ∃ v, vs[i]? = some v ∧ Rep G ρ H x v
  | [], _, _, _, _, e => by simp at e
  | x :: xs, vs, 0, y, h, e => by
    obtain ⟨v, r, rfl, h1, h2⟩ := h
    simp at e; subst e
    exact ⟨v, rfl, h1⟩
  | x :: xs, vs, i + 1, y, h, e => by
    obtain ⟨v, r, rfl, h1, h2⟩ := h
    obtain ⟨w, e1, e2⟩ := Reps.get (i := i) h2 (by simpa using e)
    exact ⟨w, by simpa using e1, e2⟩
theorem Reps.get' {G : Gx} {ρ : List Addr} {H : Hp} {xs : List PV} {vs : List V} {i : Nat} {v : V} (h : Reps G ρ H xs vs) (e : vs[i]? = some v) : ∃ x, xs[i]? = some x ∧ Rep G ρ H x v := by
  have hl := h.length
  have hi : i < xs.length := by rw [hl]; exact (List.getElem?_eq_some_iff.mp e).1
  obtain ⟨w, e1, r⟩ := h.get (i := i) (x := xs[i]) (by simp [hi])
  rw [e] at e1; cases e1
  exact ⟨xs[i], by simp [hi], r⟩
theorem Reps.append {G : Gx} {ρ : List Addr} {H : Hp} : ∀ {xs ys : List PV} {vs ws : List V}, Reps G ρ H xs vs → Reps G ρ H ys ws → Reps G ρ H (xs ++ ys) (vs ++ ws)
  | [], _, _, _, h, k => by rw [show _ = [] from h]; exact k
  | x :: xs, _, _, _, h, k => by
    obtain ⟨v, r, rfl, h1, h2⟩ := h
    exact ⟨v, _, rfl, h1, Reps.append h2 k⟩
theorem Reps.drop {G : Gx} {ρ : List Addr} {H : Hp} : ∀ (n : Nat) {xs : List PV} {vs : List V}, Reps G ρ H xs vs → Reps G ρ H (xs.drop n) (vs.drop n)
  | 0, _, _, h => h
  | n + 1, [], _, h => by rw [show _ = [] from h]; exact Reps.nil
  | n + 1, x :: xs, _, h => by
    obtain ⟨v, r, rfl, h1, h2⟩ := h
    exact Reps.drop n h2
theorem Reps.take {G : Gx} {ρ : List Addr} {H : Hp} : ∀ (n : Nat) {xs : List PV} {vs : List V}, Reps G ρ H xs vs → Reps G ρ H (xs.take n) (vs.take n)
  | 0, _, _, h => Reps.nil
  | n + 1, [], _, h => by rw [show _ = [] from h]; exact Reps.nil
  | n + 1, x :: xs, _, h => by
    obtain ⟨v, r, rfl, h1, h2⟩ := h
    exact ⟨v, _, rfl, h1, Reps.take n h2⟩
theorem Reps.set {G : Gx} {ρ : List Addr} {H : Hp} : ∀ {xs : List PV} {vs : List V} (i : Nat) {x : PV} {v : V}, Reps G ρ H xs vs → Rep G ρ H x v → Reps G ρ H (xs.set i x) (vs.set i v)
  | [], _, i, x, v, h, k => by rw [show _ = [] from h]; simpa using Reps.nil
  | y :: xs, _, 0, x, v, h, k => by
    obtain ⟨w, r, rfl, h1, h2⟩ := h
    exact ⟨v, r, rfl, k, h2⟩
  | y :: xs, _, i + 1, x, v, h, k => by
    obtain ⟨w, r, rfl, h1, h2⟩ := h
    exact ⟨w, _, rfl, h1, Reps.set i h2 k⟩
theorem Reps.reverse {G : Gx} {ρ : List Addr} {H : Hp} : ∀ {xs : List PV} {vs : List V}, Reps G ρ H xs vs → Reps G ρ H xs.reverse vs.reverse
  | [], _, h => by rw [show _ = [] from h]; exact Reps.nil
  | x :: xs, _, h => by
    obtain ⟨v, r, rfl, h1, h2⟩ := h
    simp only [List.reverse_cons]
    exact (Reps.reverse h2).append (.cons h1 .nil)

theorem CRep.mono0 {G : Gx} {ρ ρ' : List Addr} {H H' : Hp} {a : Addr} (e : Stb0 ρ ρ' H H') (k : H' a = H a) : ∀ {c : Cell}, CRep G ρ H a c → CRep G ρ' H' a c
  | .lst xs, h => by
    obtain ⟨vs, h1, h2⟩ := h
    exact ⟨vs, k.trans h1, h2.mono0 e⟩
  | .dk kvs, h => by
    obtain ⟨l, h1, h2, h3⟩ := h
    exact ⟨l, k.trans h1, h2, h3.mono0 e⟩
  | .dt kvs, h => by
    obtain ⟨l, h1, h2, h3⟩ := h
    exact ⟨l, k.trans h1, h2, h3.mono0 e⟩
  | .ins C fs, h => by
    obtain ⟨c, dx, l, h1, h2, h3, h4⟩ := h
    exact ⟨c, dx, l, k.trans h1, h2, h3, h4.mono0 e⟩
theorem CRep.mono {G : Gx} {ρ ρ' : List Addr} {H H' : Hp} {a : Addr} (e : Stb ρ ρ' H H') (k : H' a = H a) {c : Cell} (h : CRep G ρ H a c) : CRep G ρ' H' a c := h.mono0 e.to0 k
theorem CRep.there {G : Gx} {ρ : List Addr} {H : Hp} {a : Addr} : ∀ {c : Cell}, CRep G ρ H a c → ∃ o, H a = some o ∧ Mut (some o)
  | .lst xs, ⟨vs, h1, _⟩ => ⟨_, h1, trivial⟩
  | .dk kvs, ⟨l, h1, _⟩ => ⟨_, h1, trivial⟩
  | .dt kvs, ⟨l, h1, _⟩ => ⟨_, h1, trivial⟩
  | .ins C fs, ⟨c, dx, l, h1, _⟩ => ⟨_, h1, trivial⟩

/-- the store -/
structure Rst (G : Gx) (ρ : List Addr) (L : Store) (H : Hp) : Prop where
  len : ρ.length = L.length
  nd : ρ.Nodup
  cell : ∀ (n : Nat) c a, L[n]? = some c → ρ[n]? = some a → CRep G ρ H a c

theorem Rst.live {G : Gx} {ρ : List Addr} {L : Store} {H : Hp} (r : Rst G ρ L H) {a : Addr} (h : a ∈ ρ) : ∃ o, H a = some o ∧ Mut (some o) := by
  obtain ⟨n, hn, e⟩ := List.getElem_of_mem h
  have hl : n < L.length := by rw [← r.len]; exact hn
  exact (r.cell n L[n] a (by simp [hl]) (by simp [hn, e])).there
theorem Rst.fresh {G : Gx} {ρ : List Addr} {L : Store} {H : Hp} (r : Rst G ρ L H) {p : Addr} (hp : H p = none) : p ∉ ρ := fun h => by
  obtain ⟨o, e, _⟩ := r.live h
  rw [hp] at e; cases e
/-- all that stood stands -/
theorem Rst.keep {G : Gx} {ρ : List Addr} {L : Store} {H H' : Hp} (r : Rst G ρ L H) (e : Stb ρ ρ H H') (k : ∀ a ∈ ρ, H' a = H a) : Rst G ρ L H' :=
  ⟨r.len, r.nd, fun n c a hc ha => (r.cell n c a hc ha).mono e (k a (List.mem_of_getElem? ha))⟩
theorem Rst.new {G : Gx} {ρ : List Addr} {L : Store} {H : Hp} {p : Addr} {u : HO} (r : Rst G ρ L H) (hp : H p = none) : Rst G ρ L (upd H p u) :=
  r.keep (Ext.new hp).toStb fun a ha => upd_ne (fun z => r.fresh hp (z ▸ ha))

/-- the slots -/
structure Rsl (G : Gx) (H0 : Hp) (ρ : List Addr) (s : Slots) (σ : St) (H : Hp) (β : Nat → Addr) : Prop where
  len : s.length = σ.length
  val : ∀ (i : Nat) v, s[i]? = some (.val v) → ∃ u, σ[i]? = some (some u) ∧ Rep G ρ H v u
  own : ∀ (i : Nat) c, s[i]? = some (.own c) → σ[i]? = some (some (.ref (β i))) ∧ CRep G ρ H (β i) c ∧ β i ∉ ρ ∧ H0 (β i) = none
  inj : ∀ (i j : Nat) c d, s[i]? = some (.own c) → s[j]? = some (.own d) → β i = β j → i = j

theorem Rsl.ext {G : Gx} {H0 : Hp} {ρ ρ' : List Addr} {s : Slots} {σ : St} {H H' : Hp} {β : Nat → Addr} (r : Rsl G H0 ρ s σ H β) (e : Ext ρ ρ' H H') : Rsl G H0 ρ' s σ H' β := by
  refine ⟨r.len, fun i v h => ?_, fun i c h => ?_, r.inj⟩
  · obtain ⟨u, h1, h2⟩ := r.val i v h
    exact ⟨u, h1, h2.mono e.toStb⟩
  · obtain ⟨h1, h2, h3, h4⟩ := r.own i c h
    obtain ⟨o, ho, _⟩ := h2.there
    exact ⟨h1, h2.mono e.toStb ((e.keep _ _ h3 ho).trans ho.symm), e.notin h3 ho, h4⟩

/-- the whole state: the entry's addresses and heap, the store, the slots -/
structure RR (G : Gx) (r0 : List Addr) (H0 : Hp) (ρ : List Addr) (L : Store) (s : Slots) (σ : St) (H : Hp) : Prop where
  st : Rst G ρ L H
  sl : ∃ β, Rsl G H0 ρ s σ H β
  ext : Ext r0 ρ H0 H

theorem RR.go {G : Gx} {r0 ρ ρ' : List Addr} {H0 H H' : Hp} {L L' : Store} {s : Slots} {σ : St} (r : RR G r0 H0 ρ L s σ H) (e : Ext ρ ρ' H H') (t : Rst G ρ' L' H') : RR G r0 H0 ρ' L' s σ H' :=
  ⟨t, let ⟨β, q⟩ := r.sl; ⟨β, q.ext e⟩, r.ext.trans e⟩
theorem RR.new {G : Gx} {r0 ρ : List Addr} {H0 H : Hp} {L : Store} {s : Slots} {σ : St} {p : Addr} {u : HO} (r : RR G r0 H0 ρ L s σ H) (hp : H p = none) : RR G r0 H0 ρ L s σ (upd H p u) :=
  r.go (Ext.new hp) (r.st.new hp)

/-- how an exception is seen -/
def XRep (G : Gx) (ρ : List Addr) (H : Hp) (x : PX) (cls : Value) (d : Option Addr) : Prop :=
  G.mg x.cls = some cls ∧ match x.fld with
  | none => d = none
  | some v => ∃ a u, d = some a ∧ H a = some (.xd [("amount", u)]) ∧ Rep G ρ H v u

/-! ### readings -/
/-- what an answer is, from the heap ahead, the addresses and the heap behind -/
abbrev RT (α β : Type) := Hp → List Addr → Hp → α → β → Prop
class RM {α β : Type} (R : RT α β) : Prop where
  mono : ∀ {ρ ρ1 ρ' : List Addr} {H H1 H' : Hp} {a : α} {b : β}, Ext ρ ρ1 H H1 → R H1 ρ' H' a b → R H ρ' H' a b
def RE (G : Gx) : RT PV V := fun _ => Rep G
def RA (G : Gx) : RT (List PV) (List V) := fun _ => Reps G
def RB : RT Bool Bool := fun _ _ _ a b => a = b
/-- a new mutable object, known by nobody else -/
def RN (G : Gx) : RT Cell V := fun H ρ' H' c v => ∃ a, v = .ref a ∧ a ∉ ρ' ∧ H a = none ∧ CRep G ρ' H' a c
/-- a thing that is asked: a value, or a mutable object of the frame's own -/
inductive Hd where
  | v (x : PV) | o (c : Cell)
def HRep (G : Gx) (ρ : List Addr) (H : Hp) : Hd → V → Prop
  | .v x, u => Rep G ρ H x u
  | .o c, u => ∃ a, u = .ref a ∧ a ∉ ρ ∧ CRep G ρ H a c
def RH (G : Gx) : RT Hd V := fun _ => HRep G
instance {G : Gx} : RM (RE G) := ⟨fun _ h => h⟩
instance {G : Gx} : RM (RA G) := ⟨fun _ h => h⟩
instance : RM RB := ⟨fun _ h => h⟩
instance {G : Gx} : RM (RH G) := ⟨fun _ h => h⟩
theorem Stb.noneOf {ρ ρ1 : List Addr} {H H1 : Hp} (e : Stb ρ ρ1 H H1) {a : Addr} (h : H1 a = none) : H a = none := by
  cases q : H a with
  | none => rfl
  | some o =>
    obtain ⟨o', e'⟩ := e.there a o q
    rw [h] at e'; cases e'
instance {G : Gx} : RM (RN G) := ⟨fun e ⟨a, h1, h2, h3, h4⟩ => ⟨a, h1, h2, e.toStb.noneOf h3, h4⟩⟩
theorem HRep.ext {G : Gx} {ρ ρ' : List Addr} {H H' : Hp} (e : Ext ρ ρ' H H') : ∀ {x : Hd} {v : V}, HRep G ρ H x v → HRep G ρ' H' x v
  | .v x, v, h => Rep.mono e.toStb h
  | .o c, v, h => by
    obtain ⟨a, rfl, h1, h2⟩ := h
    obtain ⟨o, ho, _⟩ := h2.there
    exact ⟨a, rfl, e.notin h1 ho, h2.mono e.toStb ((e.keep _ _ h1 ho).trans ho.symm)⟩

def Ou {α β : Type} (G : Gx) (R : RT α β) (W : WX) (ρ : List Addr) (σ : St) (H : Hp) (Q : β → Hp → Prop) : Option (Res α) → Prop
  | some (.ok a L') => ∀ ρ' H' b, Ext ρ ρ' H H' → Rst G ρ' L' H' → R H ρ' H' a b → Q b H'
  | some (.err x L') => ∀ ρ' H' cls d, Ext ρ ρ' H H' → Rst G ρ' L' H' → XRep G ρ' H' x cls d → W cls d σ H'
  | none => False
theorem Ou.ext {α β : Type} {G : Gx} {R : RT α β} [m : RM R] {W : WX} {ρ ρ1 : List Addr} {σ : St} {H H1 : Hp} {Q : β → Hp → Prop} {r : Option (Res α)} (h : Ou G R W ρ σ H Q r) (e : Ext ρ ρ1 H H1) : Ou G R W ρ1 σ H1 Q r := by
  cases r with
  | none => exact h
  | some r =>
    cases r with
    | ok a L => exact fun ρ' H' b f s q => h ρ' H' b (e.trans f) s (m.mono e q)
    | err x L => exact fun ρ' H' c d f s q => h ρ' H' c d (e.trans f) s q
theorem Ou.mono {α β : Type} {G : Gx} {R : RT α β} {W : WX} {ρ : List Addr} {σ : St} {H : Hp} {Q Q' : β → Hp → Prop} {r : Option (Res α)} (h : Ou G R W ρ σ H Q r) (k : ∀ b H', Q b H' → Q' b H') : Ou G R W ρ σ H Q' r := by
  cases r with
  | none => exact h
  | some r =>
    cases r with
    | ok a L => exact fun ρ' H' b f s q => k _ _ (h ρ' H' b f s q)
    | err x L => exact h

/-- one behind the other -/
def bnd {α β : Type} (r : Option (Res α)) (k : α → Store → Option (Res β)) : Option (Res β) :=
  match r with
  | some (.ok a L) => k a L
  | some (.err x L) => some (.err x L)
  | none => none
theorem bnd_ok {α β : Type} {a : α} {L : Store} {k : α → Store → Option (Res β)} : bnd (some (.ok a L)) k = k a L := rfl
theorem bnd_err {α β : Type} {x : PX} {L : Store} {k : α → Store → Option (Res β)} : bnd (some (.err x L) : Option (Res α)) k = some (.err x L) := rfl
theorem bnd_none {α β : Type} {k : α → Store → Option (Res β)} : bnd (none : Option (Res α)) k = none := rfl
/-- an answer without a step of the store -/
def ret {α : Type} (o : Option α) (L : Store) : Option (Res α) := o.map fun a => .ok a L
theorem ret_some {α : Type} {a : α} {L : Store} : ret (some a) L = some (.ok a L) := rfl
theorem ret_none {α : Type} {L : Store} : ret (none : Option α) L = none := rfl

theorem Ou.bind {α β γ δ : Type} {G : Gx} {R : RT α β} {R' : RT γ δ} [RM R'] {W : WX} {ρ : List Addr} {σ : St} {H : Hp} {Q : β → Hp → Prop} {Q' : δ → Hp → Prop}
    {r : Option (Res α)} {k : α → Store → Option (Res γ)} (h : Ou G R' W ρ σ H Q' (bnd r k))
    (go : ∀ a L1 ρ1 H1 b, r = some (.ok a L1) → Ext ρ ρ1 H H1 → Rst G ρ1 L1 H1 → R H ρ1 H1 a b → Ou G R' W ρ1 σ H1 Q' (k a L1) → Q b H1) : Ou G R W ρ σ H Q r := by
  cases r with
  | none => exact h
  | some r =>
    cases r with
    | ok a L => exact fun ρ' H' b f s q => go a L ρ' H' b rfl f s q (Ou.ext h f)
    | err x L => exact h
theorem Ou.ret {α β : Type} {G : Gx} {R : RT α β} {W : WX} {ρ : List Addr} {σ : St} {H : Hp} {Q : β → Hp → Prop} {o : Option α} {L : Store} (h : Ou G R W ρ σ H Q (ret o L)) :
    ∃ a, o = some a ∧ ∀ ρ' H' b, Ext ρ ρ' H H' → Rst G ρ' L H' → R H ρ' H' a b → Q b H' := by
  cases o with
  | none => exact h.elim
  | some a => exact ⟨a, rfl, h⟩

/-- the reading of a function -/
def tOf {α β : Type} (G : Gx) (R : RT α β) (r0 : List Addr) (H0 : Hp) (W : WX) (f : FF α) : St → Hp → (β → Hp → Prop) → Prop :=
  fun σ H Q => ∃ ρ L s, RR G r0 H0 ρ L s σ H ∧ Ou G R W ρ σ H Q (f s L)
/-- the first of two -/
theorem tOf.first {α β γ δ : Type} {G : Gx} {R : RT α β} {R' : RT γ δ} [RM R'] {r0 : List Addr} {H0 : Hp} {W : WX} {f : FF α} {k : Slots → α → Store → Option (Res γ)} {σ : St} {H : Hp} {Q : β → Hp → Prop} {Q' : δ → Hp → Prop}
    (h : tOf G R' r0 H0 W (fun s L => bnd (f s L) (k s)) σ H Q')
    (go : ∀ ρ (L : Store) s a L1 ρ1 H1 b, RR G r0 H0 ρ1 L1 s σ H1 → Ext ρ ρ1 H H1 → R H ρ1 H1 a b → Ou G R' W ρ1 σ H1 Q' (k s a L1) → Q b H1) : tOf G R r0 H0 W f σ H Q := by
  obtain ⟨ρ, L, s, r, o⟩ := h
  exact ⟨ρ, L, s, r, Ou.bind o fun a L1 ρ1 H1 b _ e t q o' => go ρ L s a L1 ρ1 H1 b (r.go e t) e q o'⟩

abbrev gx (X : Cx) (kt : Bool) : Gx := ⟨X.K, X.mg, kt⟩
/-- the context of a derivation -/
structure FC where
  kt : Bool
  r0 : List Addr
  H0 : Hp
  W : WX
def EV (X : Cx) (c : FC) (e : Expr) (f : EF) : Prop := PE X e (tOf (gx X c.kt) (RE (gx X c.kt)) c.r0 c.H0 c.W f)
def AV (X : Cx) (c : FC) (es : List Expr) (f : AF) : Prop := PA X es (tOf (gx X c.kt) (RA (gx X c.kt)) c.r0 c.H0 c.W f)
def TV (X : Cx) (c : FC) (e : Expr) (f : BF) : Prop := PT X e (tOf (gx X c.kt) RB c.r0 c.H0 c.W f)
def WV (X : Cx) (c : FC) (e : Expr) (f : BF) : Prop := PW X e (tOf (gx X c.kt) RB c.r0 c.H0 c.W f)
def NV (X : Cx) (c : FC) (e : Expr) (f : CF) : Prop := PE X e (tOf (gx X c.kt) (RN (gx X c.kt)) c.r0 c.H0 c.W f)
def HV (X : Cx) (c : FC) (e : Expr) (f : FF Hd) : Prop := PE X e (tOf (gx X c.kt) (RH (gx X c.kt)) c.r0 c.H0 c.W f)

theorem pe_imp {X : Cx} {e : Expr} {t t' : TE} (h : PE X e t) (i : ∀ σ H Q, t' σ H Q → t σ H Q) : PE X e t' := ⟨fun pins s σ H Q I q => h.run pins s σ H Q I (i σ H Q q)⟩
theorem pa_imp {X : Cx} {es : List Expr} {t t' : TA} (h : PA X es t) (i : ∀ σ H Q, t' σ H Q → t σ H Q) : PA X es t' := ⟨fun pos pins s σ H Q I q => h.run pos pins s σ H Q I (i σ H Q q)⟩
theorem pt_imp {X : Cx} {e : Expr} {t t' : TT} (h : PT X e t) (i : ∀ σ H Q, t' σ H Q → t σ H Q) : PT X e t' := ⟨fun pins s σ H Q I q => h.run pins s σ H Q I (i σ H Q q)⟩
theorem pw_imp {X : Cx} {e : Expr} {t t' : TT} (h : PW X e t) (i : ∀ σ H Q, t' σ H Q → t σ H Q) : PW X e t' := ⟨fun wh pins s σ H Q I q => h.run wh pins s σ H Q I (i σ H Q q)⟩
theorem pi_imp {X : Cx} {tg e : Expr} {t t' : TI} (h : PI X tg e t) (i : ∀ σ H Q, t' σ H Q → t σ H Q) : PI X tg e t' := ⟨fun pins s σ H Q I q => h.run pins s σ H Q I (i σ H Q q)⟩
theorem pss_imp {X : Cx} {es : List Stmt} {t t' : TS} (h : PSs X es t) (i : ∀ D σ H, t' D σ H → t D σ H) : PSs X es t' := ⟨fun pins s σ H D I q => h.run pins s σ H D I (i D σ H q)⟩
theorem ps_imp {X : Cx} {es : Stmt} {t t' : TS} (h : PS X es t) (i : ∀ D σ H, t' D σ H → t D σ H) : PS X es t' := ⟨fun pins s σ H D I q => h.run pins s σ H D I (i D σ H q)⟩
end Fx

set_option Elab.async false
set_option linter.all false
set_option maxRecDepth 100000
set_option maxHeartbeats 1000000
/-! Fx part 2: expressions. -/
namespace Fx
open PySem L2

section
variable {X : Cx} {c : FC} {e a b : Expr} {f g : EF} {pos : Pos}

/-! ### names, constants -/
def eVar (i : Nat) : EF := fun s L => match s[i]? with
  | some (.val v) => some (.ok v L)
  | _ => none
def eC (v : PV) : EF := fun _ L => some (.ok v L)
theorem ev_var {i : Nat} {x : Str} (hN : X.N[i]? = some x) (hv : Vis X.env.scope x) (hd : (x == ("__debug__" : Str)) = false := by decide) (hcd : (x == ("__classdict__" : Str)) = false := by decide) : EV X c (.Name x pos) (eVar i) := by
  refine pe_imp (pe_var hN hv hd hcd) fun σ H Q h => ?_
  obtain ⟨ρ, L, s, r, o⟩ := h
  obtain ⟨β, q⟩ := r.sl
  unfold eVar at o
  split at o
  · rename_i v e1
    obtain ⟨u, h1, h2⟩ := q.val i v e1
    exact ⟨u, h1, o ρ H u Ext.refl r.st h2⟩
  · exact o.elim
theorem ev_const {v : PV} {w : V} (hp : PE X e (tC w)) (hr : ∀ ρ H, Rep (gx X c.kt) ρ H v w) : EV X c e (eC v) := by
  refine pe_imp hp fun σ H Q h => ?_
  obtain ⟨ρ, L, s, r, o⟩ := h
  exact o ρ H w Ext.refl r.st (hr ρ H)
theorem ev_int {i j} : EV X c (.Constant (.int i) j pos) (eC (.int i)) := ev_const pe_int fun _ _ => rfl
theorem ev_bl {i j} : EV X c (.Constant (.bool i) j pos) (eC (.bl i)) := ev_const pe_bl fun _ _ => rfl
theorem ev_non {j} : EV X c (.Constant .none j pos) (eC .non) := ev_const pe_non fun _ _ => rfl
theorem ev_str {x j} : EV X c (.Constant (.str x) j pos) (eC (.str x)) := ev_const pe_str fun _ _ => rfl
theorem ev_glI {x : Str} {i : Int} {t : Tok} (hg : Gl X x) (hm : X.mg x = some (.int i t)) (hd : (x == ("__debug__" : Str)) = false := by decide) : EV X c (.Name x pos) (eC (.int i)) := ev_const (w := .int i) (pe_glob hg hm (show RelV (.int i) (.int i t) from ⟨t, rfl⟩) hd) fun _ _ => rfl
theorem ev_glS {x y : Str} {t : Tok} (hg : Gl X x) (hm : X.mg x = some (.str y t)) (hd : (x == ("__debug__" : Str)) = false := by decide) : EV X c (.Name x pos) (eC (.str y)) := ev_const (w := .str y) (pe_glob hg hm (show RelV (.str y) (.str y t) from ⟨t, rfl⟩) hd) fun _ _ => rfl
theorem reps_ints {G : Gx} {ρ : List Addr} {H : Hp} : ∀ ns : List Int, Reps G ρ H (ns.map PV.int) (ns.map V.int)
  | [] => rfl
  | n :: ns => ⟨_, _, rfl, rfl, reps_ints ns⟩
/-- a tuple of ints of the module's top -/
theorem ev_glT {x : Str} {p : Addr} {ns : List Int} (hg : Gl X x) (hm : X.mg x = some (.ref p)) (hk : KTup X.K p (ns.map V.int)) (ht : c.kt = true) (hd : (x == ("__debug__" : Str)) = false := by decide) : EV X c (.Name x pos) (eC (.tup (ns.map PV.int))) :=
  ev_const (w := .ref p) (pe_glob hg hm (show RelV (.ref p) (.ref p) from rfl) hd) fun _ _ => ⟨p, _, rfl, .inr ⟨by rw [show (gx X c.kt).kt = true from ht]; rfl, .inr ⟨ht, hk⟩⟩, reps_ints ns⟩

/-! ### what is asked -/
def hE (f : EF) : FF Hd := fun s L => bnd (f s L) fun v L1 => some (.ok (.v v) L1)
def hOwn (i : Nat) : FF Hd := fun s L => match s[i]? with
  | some (.own c) => some (.ok (.o c) L)
  | _ => none
theorem hv_e (h : EV X c e f) : HV X c e (hE f) := by
  refine pe_imp h fun σ H Q q => ?_
  refine tOf.first (R := RE _) (k := fun _ v L1 => some (.ok (Hd.v v) L1)) q fun ρ L s v L1 ρ1 H1 u r e1 q1 o => ?_
  exact o ρ1 H1 u Ext.refl r.st q1
theorem hv_own {i : Nat} {x : Str} (hN : X.N[i]? = some x) (hv : Vis X.env.scope x) (hd : (x == ("__debug__" : Str)) = false := by decide) (hcd : (x == ("__classdict__" : Str)) = false := by decide) : HV X c (.Name x pos) (hOwn i) := by
  refine pe_imp (pe_var hN hv hd hcd) fun σ H Q h => ?_
  obtain ⟨ρ, L, s, r, o⟩ := h
  obtain ⟨β, q⟩ := r.sl
  unfold hOwn at o
  split at o
  · rename_i w e1
    obtain ⟨h1, h2, h3, _⟩ := q.own i w e1
    exact ⟨_, h1, o ρ H _ Ext.refl r.st ⟨_, rfl, h3, h2⟩⟩
  · exact o.elim

/-! ### two-place operators -/
/-- h answers what the rule r wants -/
def Op2 (G : Gx) (h : PV → PV → Option PV) (r : R2) : Prop := ∀ ρ L H x y z v w Q, Rst G ρ L H → Rep G ρ H x v → Rep G ρ H y w → h x y = some z →
  (∀ ρ' H' u, Ext ρ ρ' H H' → Rst G ρ' L H' → Rep G ρ' H' z u → Q u H') → r v w H Q
def eOp (h : PV → PV → Option PV) (f g : EF) : EF := fun s L => bnd (f s L) fun x L1 => bnd (g s L1) fun y L2 => ret (h x y) L2
theorem op_read {h : PV → PV → Option PV} {r : R2} (i : Op2 (gx X c.kt) h r) {σ : St} {H : Hp} {Q : VK} (q : tOf (gx X c.kt) (RE (gx X c.kt)) c.r0 c.H0 c.W (eOp h f g) σ H Q) :
    tOp r (tOf (gx X c.kt) (RE (gx X c.kt)) c.r0 c.H0 c.W f) (tOf (gx X c.kt) (RE (gx X c.kt)) c.r0 c.H0 c.W g) σ H Q := by
  refine tOf.first (R := RE _) (k := fun s x L1 => bnd (g s L1) fun y L2 => ret (h x y) L2) q fun ρ L s x L1 ρ1 H1 v R1 e1 q1 o1 => ?_
  refine ⟨ρ1, L1, s, R1, Ou.bind o1 fun y L2 ρ2 H2 w _ e2 t2 q2 o2 => ?_⟩
  obtain ⟨z, hz, k⟩ := Ou.ret o2
  exact i ρ2 L2 H2 x y z v w Q t2 (Rep.mono e2.toStb q1) q2 hz k
theorem ev_op {op : Operator} {h : PV → PV → Option PV} {r : R2} (ho : OpR X (binaryOp op) r) (i : Op2 (gx X c.kt) h r) (ha : EV X c a f) (hb : EV X c b g) : EV X c (.BinOp a op b pos) (eOp h f g) :=
  pe_imp (pe_op ho ha hb) fun _ _ _ q => op_read i q
theorem ev_cmp {op : CmpOp} {h : PV → PV → Option PV} {r : R2} (ho : OpR X (compareOp op) r) (i : Op2 (gx X c.kt) h r) (ha : EV X c a f) (hb : EV X c b g) (hm : behindInMarks op b = false) : EV X c (.Compare a [op] [b] pos) (eOp h f g) :=
  pe_imp (pe_cmpR ho ha hb hm) fun _ _ _ q => op_read i q

/-- a truth value of an answer -/
def bB (f : EF) : BF := fun s L => bnd (f s L) fun v L1 => match v with
  | .bl k => some (.ok k L1)
  | _ => none
theorem tOf.test {σ : St} {H : Hp} {Q : Bool → Hp → Prop} (q : tOf (gx X c.kt) RB c.r0 c.H0 c.W (bB f) σ H Q) : tOf (gx X c.kt) (RE (gx X c.kt)) c.r0 c.H0 c.W f σ H fun x H' => ∃ k, x = .bl k ∧ Q k H' := by
  refine tOf.first (R' := RB) (R := RE _) (k := fun _ v L1 => match v with
    | .bl k => some (.ok k L1)
    | _ => none) q fun ρ L s v L1 ρ1 H1 u r e1 q1 o => ?_
  split at o
  · rename_i k
    exact ⟨k, q1, o ρ1 H1 k Ext.refl r.st rfl⟩
  · exact o.elim
theorem tv_cmp {op : CmpOp} {h : PV → PV → Option PV} {r : R2} (ho : OpR X (compareOp op) r) (i : Op2 (gx X c.kt) h r) (ha : EV X c a f) (hb : EV X c b g) (hm : behindInMarks op b = false) : TV X c (.Compare a [op] [b] pos) (bB (eOp h f g)) :=
  pt_imp (pt_cmpR ho ha hb hm) fun _ _ _ q => op_read i q.test
/-- an expression that is no comparison, no and, or, not -/
theorem tv_e (h : EV X c e f) (he : ∀ whole, isTrue e X.env whole = (do let v ← whole; standAt e.pos; holding [v] (truthy v)) := by intro _; rfl) : TV X c e (bB f) :=
  pt_imp (pt_val h he) fun _ _ _ q => q.test

/-- a < b < c -/
def eChain (h h' : PV → PV → Option PV) (f g k : EF) : EF := fun s L => bnd (f s L) fun x L1 => bnd (g s L1) fun y L2 => match h x y with
  | some (.bl true) => bnd (k s L2) fun z L3 => ret (h' y z) L3
  | some (.bl false) => some (.ok (.bl false) L2)
  | _ => none
theorem chain_read {d : Expr} {k : EF} {h h' : PV → PV → Option PV} {r r' : R2} (i : Op2 (gx X c.kt) h r) (i' : Op2 (gx X c.kt) h' r') {σ : St} {H : Hp} {Q : VK} (q : tOf (gx X c.kt) (RE (gx X c.kt)) c.r0 c.H0 c.W (eChain h h' f g k) σ H Q) :
    tChain r r' (tOf (gx X c.kt) (RE (gx X c.kt)) c.r0 c.H0 c.W f) (tOf (gx X c.kt) (RE (gx X c.kt)) c.r0 c.H0 c.W g) (tOf (gx X c.kt) (RE (gx X c.kt)) c.r0 c.H0 c.W k) σ H Q := by
  obtain ⟨ρ, L, s, r, o⟩ := q
  refine ⟨ρ, L, s, r, Ou.bind o fun x L1 ρ1 H1 v _ e1 t1 q1 o1 => ⟨ρ1, L1, s, r.go e1 t1, Ou.bind o1 fun y L2 ρ2 H2 w _ e2 t2 q2 o2 => ?_⟩⟩
  have q1' := Rep.mono e2.toStb q1
  split at o2
  · rename_i hz
    refine i ρ2 L2 H2 x y _ v w _ t2 q1' q2 hz fun ρ3 H3 u e3 t3 q3 => ⟨true, q3, ?_⟩
    rw [if_pos rfl]
    refine ⟨ρ3, L2, s, (r.go (e1.trans e2) t2).go e3 t3, Ou.bind (o2.ext e3) fun z L4 ρ4 H4 u' _ e4 t4 q4 o4 => ?_⟩
    obtain ⟨z', hz', k'⟩ := Ou.ret o4
    exact i' ρ4 L4 H4 y z z' w u' Q t4 (Rep.mono (e3.trans e4).toStb q2) q4 hz' k'
  · rename_i hz
    refine i ρ2 L2 H2 x y _ v w _ t2 q1' q2 hz fun ρ3 H3 u e3 t3 q3 => ⟨false, q3, ?_⟩
    rw [if_neg Bool.false_ne_true]
    exact o2 ρ3 H3 _ e3 t3 rfl
  · exact o2.elim
theorem ev_chain {d : Expr} {k : EF} {op op' : CmpOp} {h h' : PV → PV → Option PV} {r r' : R2} (ho : OpR X (compareOp op) r) (ho' : OpR X (compareOp op') r') (i : Op2 (gx X c.kt) h r) (i' : Op2 (gx X c.kt) h' r') (ha : EV X c a f) (hb : EV X c b g) (hd : EV X c d k)
    (hm : lastMarks [op, op'] [b, d] = false := by with_unfolding_all rfl) : EV X c (.Compare a [op, op'] [b, d] pos) (eChain h h' f g k) :=
  pe_imp (pe_chain ho ho' ha hb hd hm) fun _ _ _ q => chain_read (d := d) i i' q
theorem tv_chain {d : Expr} {k : EF} {op op' : CmpOp} {h h' : PV → PV → Option PV} {r r' : R2} (ho : OpR X (compareOp op) r) (ho' : OpR X (compareOp op') r') (i : Op2 (gx X c.kt) h r) (i' : Op2 (gx X c.kt) h' r') (ha : EV X c a f) (hb : EV X c b g) (hd : EV X c d k)
    (hm : lastMarks [op, op'] [b, d] = false := by with_unfolding_all rfl) : TV X c (.Compare a [op, op'] [b, d] pos) (bB (eChain h h' f g k)) :=
  pt_imp (pt_chain ho ho' ha hb hd hm) fun _ _ _ q => chain_read (d := d) i i' q.test

/-! ### and, or, not, if .. else -/
variable {p q : BF} {rest : List Expr}
def bAnd (p q : BF) : BF := fun s L => bnd (p s L) fun k L1 => if k = true then q s L1 else some (.ok false L1)
def bOr (p q : BF) : BF := fun s L => bnd (p s L) fun k L1 => if k = true then some (.ok true L1) else q s L1
def bNot (p : BF) : BF := fun s L => bnd (p s L) fun k L1 => some (.ok (!k) L1)
theorem wv_and1 (ha : TV X c a p) : WV X c (.BoolOp .And [a] pos) p := pw_and1 ha
theorem wv_or1 (ha : TV X c a p) : WV X c (.BoolOp .Or [a] pos) p := pw_or1 ha
theorem wv_and (ha : TV X c a p) (hb : WV X c (.BoolOp .And (b :: rest) pos) q) : WV X c (.BoolOp .And (a :: b :: rest) pos) (bAnd p q) := by
  refine pw_imp (pw_and ha hb) fun σ H Q h => ?_
  refine tOf.first (R := RB) (R' := RB) (k := fun s k L1 => if k = true then q s L1 else some (.ok false L1)) h fun ρ L s k L1 ρ1 H1 u r e1 q1 o => ?_
  obtain rfl : k = u := q1
  cases k with
  | true => rw [if_pos rfl] at o ⊢; exact ⟨ρ1, L1, s, r, o⟩
  | false => rw [if_neg Bool.false_ne_true] at o ⊢; exact o ρ1 H1 _ Ext.refl r.st rfl
theorem wv_or (ha : TV X c a p) (hb : WV X c (.BoolOp .Or (b :: rest) pos) q) : WV X c (.BoolOp .Or (a :: b :: rest) pos) (bOr p q) := by
  refine pw_imp (pw_or ha hb) fun σ H Q h => ?_
  refine tOf.first (R := RB) (R' := RB) (k := fun s k L1 => if k = true then some (.ok true L1) else q s L1) h fun ρ L s k L1 ρ1 H1 u r e1 q1 o => ?_
  obtain rfl : k = u := q1
  cases k with
  | true => rw [if_pos rfl] at o ⊢; exact o ρ1 H1 _ Ext.refl r.st rfl
  | false => rw [if_neg Bool.false_ne_true] at o ⊢; exact ⟨ρ1, L1, s, r, o⟩
theorem tv_w (h : WV X c e p) : TV X c e p := PW.pt h
theorem tv_not (ha : TV X c a p) : TV X c (.UnaryOp .Not a pos) (bNot p) := by
  refine pt_imp (pt_not ha) fun σ H Q h => ?_
  refine tOf.first (R := RB) (R' := RB) (k := fun s k L1 => some (.ok (!k) L1)) h fun ρ L s k L1 ρ1 H1 u r e1 q1 o => ?_
  obtain rfl : k = u := q1
  exact o ρ1 H1 _ Ext.refl r.st rfl
/-- as values: all but the last truth values -/
def eAnd (f g : EF) : EF := fun s L => bnd (f s L) fun v L1 => match v with
  | .bl true => g s L1
  | .bl false => some (.ok (.bl false) L1)
  | _ => none
def eOr (f g : EF) : EF := fun s L => bnd (f s L) fun v L1 => match v with
  | .bl true => some (.ok (.bl true) L1)
  | .bl false => g s L1
  | _ => none
def eNot (f : EF) : EF := fun s L => bnd (f s L) fun v L1 => match v with
  | .bl k => some (.ok (.bl (!k)) L1)
  | _ => none
theorem ev_one {op} (h : EV X c a f) : EV X c (.BoolOp op [a] pos) f := pe_one h
theorem ev_and (ha : EV X c a f) (hb : EV X c (.BoolOp .And (b :: rest) pos) g) : EV X c (.BoolOp .And (a :: b :: rest) pos) (eAnd f g) := by
  refine pe_imp (pe_and ha hb) fun σ H Q h => ?_
  refine tOf.first (R := RE _) (R' := RE _) (k := fun s v L1 => match v with
    | .bl true => g s L1
    | .bl false => some (.ok (.bl false) L1)
    | _ => none) h fun ρ L s v L1 ρ1 H1 u r e1 q1 o => ?_
  split at o
  · exact ⟨true, q1, ρ1, L1, s, r, o⟩
  · exact ⟨false, q1, o ρ1 H1 _ Ext.refl r.st rfl⟩
  · exact o.elim
theorem ev_or (ha : EV X c a f) (hb : EV X c (.BoolOp .Or (b :: rest) pos) g) : EV X c (.BoolOp .Or (a :: b :: rest) pos) (eOr f g) := by
  refine pe_imp (pe_or ha hb) fun σ H Q h => ?_
  refine tOf.first (R := RE _) (R' := RE _) (k := fun s v L1 => match v with
    | .bl true => some (.ok (.bl true) L1)
    | .bl false => g s L1
    | _ => none) h fun ρ L s v L1 ρ1 H1 u r e1 q1 o => ?_
  split at o
  · exact ⟨true, q1, o ρ1 H1 _ Ext.refl r.st rfl⟩
  · exact ⟨false, q1, ρ1, L1, s, r, o⟩
  · exact o.elim
theorem ev_not (ha : EV X c a f) : EV X c (.UnaryOp .Not a pos) (eNot f) := by
  refine pe_imp (pe_not ha) fun σ H Q h => ?_
  refine tOf.first (R := RE _) (R' := RE _) (k := fun s v L1 => match v with
    | .bl k => some (.ok (.bl (!k)) L1)
    | _ => none) h fun ρ L s v L1 ρ1 H1 u r e1 q1 o => ?_
  split at o
  · exact ⟨_, q1, o ρ1 H1 _ Ext.refl r.st rfl⟩
  · exact o.elim
def eIf (p : BF) (f g : EF) : EF := fun s L => bnd (p s L) fun k L1 => if k = true then f s L1 else g s L1
theorem ev_if {t : Expr} (ht : TV X c t p) (ha : EV X c a f) (hb : EV X c b g) : EV X c (.IfExp t a b pos) (eIf p f g) := by
  refine pe_imp (pe_ifExp ht ha hb) fun σ H Q h => ?_
  refine tOf.first (R := RB) (R' := RE _) (k := fun s k L1 => if k = true then f s L1 else g s L1) h fun ρ L s k L1 ρ1 H1 u r e1 q1 o => ?_
  obtain rfl : k = u := q1
  cases k with
  | true => rw [if_pos rfl] at o ⊢; exact ⟨ρ1, L1, s, r, o⟩
  | false => rw [if_neg Bool.false_ne_true] at o ⊢; exact ⟨ρ1, L1, s, r, o⟩

/-! ### argument lists, displays -/
variable {es : List Expr} {fa : AF}
def aNil : AF := fun _ L => some (.ok [] L)
def aCons (f : EF) (r : AF) : AF := fun s L => bnd (f s L) fun x L1 => bnd (r s L1) fun xs L2 => some (.ok (x :: xs) L2)
theorem av_nil : AV X c [] aNil := by
  refine pa_imp pa_nil fun σ H Q h => ?_
  obtain ⟨ρ, L, s, r, o⟩ := h
  exact o ρ H _ Ext.refl r.st rfl
theorem av_cons (ha : EV X c e f) (hr : AV X c es fa) (hs : starEach (e :: es) X.env = (false, eval e X.env) :: starEach es X.env := by rfl) : AV X c (e :: es) (aCons f fa) := by
  refine pa_imp (pa_cons ha hr hs) fun σ H Q h => ?_
  refine tOf.first (R := RE _) (R' := RA _) (k := fun s x L1 => bnd (fa s L1) fun xs L2 => some (.ok (x :: xs) L2)) h fun ρ L s x L1 ρ1 H1 u r e1 q1 o => ?_
  exact ⟨ρ1, L1, s, r, Ou.bind o fun xs L2 ρ2 H2 us _ e2 t2 q2 o2 => o2 ρ2 H2 _ Ext.refl t2 ⟨_, _, rfl, Rep.mono e2.toStb q1, q2⟩⟩
def eTup (fa : AF) : EF := fun s L => bnd (fa s L) fun xs L1 => if xs.length ≤ sizeLine then some (.ok (.tup xs) L1) else none
theorem Rep.tupNew {G : Gx} {ρ : List Addr} {L : Store} {H : Hp} {p : Addr} {xs : List PV} {vs : List V} {u : HO} (t : Rst G ρ L H) (h : Reps G ρ H xs vs) (hp : H p = none) (hu : FT.TObj G.kt vs u) : Rep G ρ (upd H p u) (.tup xs) (.ref p) := by
  refine ⟨p, vs, rfl, ?_, h.mono (Ext.new hp).toStb⟩
  unfold FT.TObj at hu
  cases hk : FT.frzT G.kt vs with
  | false =>
    rw [hk, if_neg Bool.false_ne_true] at hu
    subst hu
    exact .inl ⟨hk, upd_same⟩
  | true =>
    rw [hk, if_pos rfl] at hu
    obtain ⟨o, hd, rfl⟩ := hu
    exact .inr ⟨hk, .inl ⟨t.fresh hp, o, hd, upd_same⟩⟩
theorem ev_tup {x1} (h : AV X c es fa) : EV X c (.Tuple es x1 pos) (eTup fa) := by
  refine pe_imp (FT.pe_tupM (m := c.kt) h) fun σ H Q q => ?_
  refine tOf.first (R := RA _) (R' := RE _) (k := fun s xs L1 => if xs.length ≤ sizeLine then some (.ok (.tup xs) L1) else none) q fun ρ L s xs L1 ρ1 H1 vs r e1 q1 o => ?_
  split at o
  · rename_i hz
    exact ⟨by rw [← Reps.length q1]; exact hz, fun p u hp hu => o ρ1 _ _ (Ext.new hp) (r.st.new hp) (Rep.tupNew r.st q1 hp hu)⟩
  · exact o.elim

/-! ### new objects: as they are, frozen -/
theorem Stb.mut {ρ : List Addr} {H : Hp} {p : Addr} {u w : HO} (h : H p = some w) (mu : Mut (some w)) : Stb ρ ρ H (upd H p u) := by
  have k : ∀ a o, H a = some o → ¬ Mut (some o) → upd H p u a = some o := fun a o e nm => by
    rw [upd_ne]
    · exact e
    · rintro rfl
      rw [h] at e; cases e; exact nm mu
  refine ⟨⟨[], by simp, by simp⟩, fun a o e => ?_, fun a xs e => k a _ e fun z => z, fun a o u' _ e => k a _ e fun z => z⟩
  by_cases ha : a = p
  · exact ⟨u, by rw [ha, upd_same]⟩
  · exact ⟨o, by rw [upd_ne ha]; exact e⟩
theorem Ext.mutNew {ρ ρ' : List Addr} {H H' : Hp} {p : Addr} {u w : HO} (e : Ext ρ ρ' H H') (hn : H p = none) (h : H' p = some w) (mu : Mut (some w)) : Ext ρ ρ' H (upd H' p u) := by
  have ne : ∀ a o, H a = some o → a ≠ p := fun a o q z => by rw [z, hn] at q; cases q
  refine ⟨⟨e.pre, fun a o q => ?_, fun a xs q => by rw [upd_ne (ne _ _ q)]; exact e.tup a xs q, fun a o u' hn' q => by rw [upd_ne (ne _ _ q)]; exact e.frz a o u' hn' q⟩, fun a o hn' q => by rw [upd_ne (ne _ _ q)]; exact e.keep a o hn' q⟩
  obtain ⟨o', q'⟩ := e.there a o q
  exact ⟨o', by rw [upd_ne (ne _ _ q)]; exact q'⟩
theorem Rst.mutOut {G : Gx} {ρ : List Addr} {L : Store} {H : Hp} {p : Addr} {u w : HO} (r : Rst G ρ L H) (hp : p ∉ ρ) (h : H p = some w) (mu : Mut (some w)) : Rst G ρ L (upd H p u) :=
  r.keep (Stb.mut h mu) fun a ha => upd_ne fun z => hp (z ▸ ha)
def frzC : Cell → Option PV
  | .lst xs => some (.lst xs)
  | .dk kvs => some (.dk (kvs.map (·.1)) (kvs.map (·.2)))
  | .dt kvs => some (.dt (kvs.map (·.1)) (kvs.map (·.2)))
  | .ins _ _ => none
theorem CRep.frz {G : Gx} {ρ : List Addr} {H : Hp} {p : Addr} {c : Cell} {v : PV} (h : CRep G ρ H p c) (hp : p ∉ ρ) (hf : frzC c = some v) : ∃ u, H p = some u ∧ Mut (some u) ∧ ∀ o, Rep G ρ (upd H p (.frz o u)) v (.ref p) := by
  cases c with
  | lst xs =>
    obtain ⟨vs, h1, h2⟩ := h
    cases hf
    exact ⟨_, h1, trivial, fun o => ⟨p, o, vs, rfl, hp, upd_same, h2.mono (Stb.mut h1 trivial)⟩⟩
  | dk kvs =>
    obtain ⟨l, h1, h2, h3⟩ := h
    cases hf
    exact ⟨_, h1, trivial, fun o => ⟨p, o, l, rfl, hp, upd_same, h2, h3.mono (Stb.mut h1 trivial)⟩⟩
  | dt kvs =>
    obtain ⟨l, h1, h2, h3⟩ := h
    cases hf
    exact ⟨_, h1, trivial, fun o => ⟨p, o, l, rfl, hp, upd_same, h2, h3.mono (Stb.mut h1 trivial)⟩⟩
  | ins C fs => cases hf
theorem pe_frz {t : TE} (h : PE X e t) : PE X e (fun σ H Q => t σ H fun v H1 => ∃ p u, v = .ref p ∧ H1 p = some u ∧ Mut (some u) ∧ ∀ o, Q v (upd H1 p (.frz o u))) := by
  refine ⟨fun pins s σ H Q I q => ?_⟩
  refine thn (h.run pins s σ H _ I q) fun u s1 ⟨x, H1, I1, rx, p, w, ex, hp, mu, k⟩ => ?_
  obtain ⟨od, I2⟩ := I1.lock hp mu
  exact ⟨x, _, I2, rx, k od⟩
variable {fc : CF}
def eFrz (fc : CF) : EF := fun s L => bnd (fc s L) fun w L1 => ret (frzC w) L1
theorem ev_frz (h : NV X c e fc) : EV X c e (eFrz fc) := by
  refine pe_imp (pe_frz h) fun σ H Q q => ?_
  obtain ⟨ρ, L, s, r, o⟩ := q
  refine ⟨ρ, L, s, r, ?_⟩
  unfold eFrz at o
  cases hf : fc s L with
  | none => rw [hf] at o; exact o.elim
  | some a =>
    cases a with
    | err x L1 => rw [hf] at o; exact o
    | ok w L1 =>
      rw [hf] at o
      obtain ⟨x, hx, k⟩ := Ou.ret (show Ou _ _ _ _ _ _ _ (ret (frzC w) L1) from o)
      intro ρ1 H1 v e1 t1 q1
      obtain ⟨p, rfl, hp, hn, hc⟩ := q1
      obtain ⟨u, hu, mu, hr⟩ := hc.frz hp hx
      exact ⟨p, u, rfl, hu, mu, fun od => k ρ1 _ _ (e1.mutNew hn hu mu) (t1.mutOut hp hu mu) (hr od)⟩
end
end Fx

set_option Elab.async false
set_option linter.all false
set_option maxRecDepth 100000
set_option maxHeartbeats 1000000
/-! Fx part 3: operators on pure values. -/
namespace Fx
open PySem L2

/-! ### numbers -/
def hSub : PV → PV → Option PV
  | .int i, .int j => some (.int (i - j))
  | _, _ => none
def hMod : PV → PV → Option PV
  | .int i, .int j => if 0 < j then some (.int (i % j)) else none
  | _, _ => none
def hDiv : PV → PV → Option PV
  | .int i, .int j => if 0 < j ∧ j.natAbs.log2 < 9000 then some (.int (i / j)) else none
  | _, _ => none
def hPow : PV → PV → Option PV
  | .int i, .int j => if 0 ≤ j ∧ j ≤ 1000000 ∧ i.natAbs < 2 ^ 64 then some (.int (i ^ j.toNat)) else none
  | _, _ => none
section
variable {G : Gx}
/-- an operator on two ints that gives a plain value -/
theorem Op2.ints {h : PV → PV → Option PV} {C : Int → Int → Prop} {g : Int → Int → V} {g' : Int → Int → PV} (hg : ∀ i j (ρ : List Addr) (H : Hp), Rep G ρ H (g' i j) (g i j))
    (hh : ∀ x y z, h x y = some z → ∃ i j, x = .int i ∧ y = .int j ∧ C i j ∧ z = g' i j) : Op2 G h (rI C g) := by
  intro ρ L H x y z v w Q t hx hy hz k
  obtain ⟨i, j, rfl, rfl, hc, rfl⟩ := hh x y z hz
  obtain rfl : v = .int i := hx
  obtain rfl : w = .int j := hy
  exact ⟨i, j, rfl, rfl, hc, k ρ H _ Ext.refl t (hg i j ρ H)⟩
theorem Op2.ints0 {h : PV → PV → Option PV} {g : Int → Int → V} {g' : Int → Int → PV} (hg : ∀ i j (ρ : List Addr) (H : Hp), Rep G ρ H (g' i j) (g i j))
    (hh : ∀ x y z, h x y = some z → ∃ i j, x = .int i ∧ y = .int j ∧ z = g' i j) : Op2 G h (rI0 g) := by
  intro ρ L H x y z v w Q t hx hy hz k
  obtain ⟨i, j, rfl, rfl, rfl⟩ := hh x y z hz
  obtain rfl : v = .int i := hx
  obtain rfl : w = .int j := hy
  exact ⟨i, j, rfl, rfl, k ρ H _ Ext.refl t (hg i j ρ H)⟩
theorem o2_sub : Op2 G hSub (rI0 fun i j => .int (i - j)) := .ints0 (g' := fun i j => .int (i - j)) (fun _ _ _ _ => rfl) fun x y z h => by
  unfold hSub at h
  split at h
  · cases h; exact ⟨_, _, rfl, rfl, rfl⟩
  · cases h
theorem o2_mod : Op2 G hMod (rI (fun _ j => 0 < j) fun i j => .int (i % j)) := .ints (g' := fun i j => .int (i % j)) (fun _ _ _ _ => rfl) fun x y z h => by
  unfold hMod at h
  split at h
  · split at h
    · rename_i hj
      cases h; exact ⟨_, _, rfl, rfl, hj, rfl⟩
    · cases h
  · cases h
theorem o2_div : Op2 G hDiv (rI CDivW fun i j => .int (i / j)) := .ints (g' := fun i j => .int (i / j)) (fun _ _ _ _ => rfl) fun x y z h => by
  unfold hDiv at h
  split at h
  · split at h
    · rename_i hj
      cases h; exact ⟨_, _, rfl, rfl, hj, rfl⟩
    · cases h
  · cases h
theorem o2_pow : Op2 G hPow (rI CPow fun i j => .int (i ^ j.toNat)) := .ints (g' := fun i j => .int (i ^ j.toNat)) (fun _ _ _ _ => rfl) fun x y z h => by
  unfold hPow at h
  split at h
  · split at h
    · rename_i hj
      cases h; exact ⟨_, _, rfl, rfl, hj, rfl⟩
    · cases h
  · cases h
end

/-! ### what may be a new list: frozen -/
def FQ (Q : VK) : VK := fun v H => Q v H ∨ ∃ p u, v = .ref p ∧ H p = some u ∧ Mut (some u) ∧ ∀ o, Q v (upd H p (.frz o u))
theorem pe_fq {X : Cx} {e : Expr} {t : TE} (h : PE X e t) : PE X e (fun σ H Q => t σ H (FQ Q)) := by
  refine ⟨fun pins s σ H Q I q => ?_⟩
  refine thn (h.run pins s σ H _ I q) fun u s1 ⟨x, H1, I1, rx, k⟩ => ?_
  rcases k with k | ⟨p, w, ex, hp, mu, k⟩
  · exact ⟨x, H1, I1, rx, k⟩
  · obtain ⟨od, I2⟩ := I1.lock hp mu
    exact ⟨x, _, I2, rx, k od⟩
def Op2F (G : Gx) (h : PV → PV → Option PV) (r : R2) : Prop := ∀ ρ L H x y z v w Q, Rst G ρ L H → Rep G ρ H x v → Rep G ρ H y w → h x y = some z →
  (∀ ρ' H' u, Ext ρ ρ' H H' → Rst G ρ' L H' → Rep G ρ' H' z u → Q u H') → r v w H (FQ Q)
theorem Op2F.of {G : Gx} {h : PV → PV → Option PV} {r : R2} (i : Op2 G h r) : Op2F G h r := fun ρ L H x y z v w Q t hx hy hz k => i ρ L H x y z v w (FQ Q) t hx hy hz fun ρ' H' u e t' q => .inl (k ρ' H' u e t' q)
theorem Op2.or {G : Gx} {h h1 h2 : PV → PV → Option PV} {r r' : R2} (i : Op2F G h1 r) (i' : Op2F G h2 r') (hh : ∀ x y z, h x y = some z → h1 x y = some z ∨ h2 x y = some z) : Op2F G h (fun x y H Q => r x y H Q ∨ r' x y H Q) := fun ρ L H x y z v w Q t hx hy hz k =>
  (hh x y z hz).elim (fun e => .inl (i ρ L H x y z v w Q t hx hy e k)) fun e => .inr (i' ρ L H x y z v w Q t hx hy e k)
theorem ev_opF {X : Cx} {c : FC} {a b : Expr} {f g : EF} {pos : Pos} {op : Operator} {h : PV → PV → Option PV} {r : R2} (ho : OpR X (binaryOp op) r) (i : Op2F (gx X c.kt) h r) (ha : EV X c a f) (hb : EV X c b g) : EV X c (.BinOp a op b pos) (eOp h f g) := by
  refine pe_imp (pe_fq (pe_op ho ha hb)) fun σ H Q q => ?_
  refine tOf.first (R := RE _) (k := fun s x L1 => bnd (g s L1) fun y L2 => ret (h x y) L2) q fun ρ L s x L1 ρ1 H1 v R1 e1 q1 o1 => ?_
  refine ⟨ρ1, L1, s, R1, Ou.bind o1 fun y L2 ρ2 H2 w _ e2 t2 q2 o2 => ?_⟩
  obtain ⟨z, hz, k⟩ := Ou.ret o2
  exact i ρ2 L2 H2 x y z v w Q t2 (Rep.mono e2.toStb q1) q2 hz k

/-! ### lists that may be frozen: + and * -/
section
variable {X : Cx} {pins : List (Addr × Obj)} {σ : St} {H : Hp} {s : Shared} {l : Addr} {xs : List V}
theorem lstF (I : Inv X pins σ H s) (hH : Rd H l (.lst xs)) : xs.length ≤ sizeLine ∧ ∃ (its : List Value) (n : Nat), Vals xs its ∧ xs.length = its.length ∧ s.heap.get? l = some { cls := .type "list", data := .seq its.toArray n } := by
  obtain ⟨z, its, n, r, e⟩ := hH.ok I.hok
  exact ⟨z, its, n, r, r.length, e⟩
def rCatF : R2 := fun x y H Q => ∃ l b xs zs, x = .ref l ∧ y = .ref b ∧ Rd H l (.lst xs) ∧ Rd H b (.lst zs) ∧ xs.length + zs.length ≤ sizeLine ∧ ∀ p, H p = none → Q (.ref p) (upd H p (.lst (xs ++ zs)))
theorem op_catF : OpR X (binaryOp .Add) rCatF := by
  intro pins s σ H x y v u Q I rx ry h
  obtain ⟨l, b, xs, zs, rfl, rfl, hH, hB, hz, q⟩ := h
  cases rx
  cases ry
  obtain ⟨z, its, n, r, hl, e⟩ := lstF I hH
  obtain ⟨z2, its2, n2, r2, hl2, e2⟩ := lstF I hB
  refine PySem.P.add_list e e2 ?_ (by rw [List.size_toArray, List.size_toArray]; omega)
  have ea : its.toArray ++ its2.toArray = (its ++ its2).toArray := by simp
  rw [ea]
  exact ⟨.ref _, _, I.lnew (t' := s.toks) (r.append r2) (by rw [List.length_append]; omega), rfl, q _ I.fresh⟩
end

def hAddI : PV → PV → Option PV
  | .int i, .int j => some (.int (i + j))
  | _, _ => none
def hAddS : PV → PV → Option PV
  | .str x, .str y => if x.length + y.length ≤ sizeLine then some (.str (x ++ y)) else none
  | _, _ => none
def hAddT : PV → PV → Option PV
  | .tup xs, .tup ys => if xs.length + ys.length ≤ sizeLine then some (.tup (xs ++ ys)) else none
  | _, _ => none
def hAddL : PV → PV → Option PV
  | .lst xs, .lst ys => if xs.length + ys.length ≤ sizeLine then some (.lst (xs ++ ys)) else none
  | _, _ => none
def hAdd : PV → PV → Option PV
  | .int i, .int j => some (.int (i + j))
  | .str x, .str y => if x.length + y.length ≤ sizeLine then some (.str (x ++ y)) else none
  | .tup xs, .tup ys => if xs.length + ys.length ≤ sizeLine then some (.tup (xs ++ ys)) else none
  | .lst xs, .lst ys => if xs.length + ys.length ≤ sizeLine then some (.lst (xs ++ ys)) else none
  | _, _ => none
section
variable {G : Gx}
theorem KTup.sq {ρ : List Addr} {H : Hp} {a : Addr} {xs : List V} (h : TupAt G ρ H a xs) : SqT G.K H a xs := by
  rcases h with ⟨_, h⟩ | ⟨_, ⟨_, o, _, h⟩ | ⟨_, o, its, n, e1, e2, _, e4⟩⟩
  · exact .inl (.inl h)
  · exact .inl (.inr ⟨o, h⟩)
  · exact .inr ⟨o, its, n, e1, e2, e4⟩
theorem o2_addI : Op2 G hAddI (rI0 fun i j => .int (i + j)) := .ints0 (g' := fun i j => .int (i + j)) (fun _ _ _ _ => rfl) fun x y z h => by
  unfold hAddI at h
  split at h
  · cases h; exact ⟨_, _, rfl, rfl, rfl⟩
  · cases h
theorem o2_addS : Op2 G hAddS (fun x y H Q => ∃ i j, x = .str i ∧ y = .str j ∧ i.length + j.length ≤ sizeLine ∧ Q (.str (i ++ j)) H) := by
  intro ρ L H x y z v w Q t hx hy hz k
  unfold hAddS at hz
  split at hz
  · split at hz
    · rename_i hl
      cases hz
      exact ⟨_, _, hx, hy, hl, k ρ H _ Ext.refl t rfl⟩
    · cases hz
  · cases hz
theorem o2_addT {K : PySem.W.Frag} (hK : G.K = K) : Op2 G hAddT (FT.rCatM G.kt K) := by
  subst hK
  intro ρ L H x y z v w Q t hx hy hz k
  unfold hAddT at hz
  split at hz
  · rename_i xs ys
    split at hz
    · rename_i hl
      cases hz
      obtain ⟨a, vs, rfl, ha, ra⟩ := hx
      obtain ⟨b, ws, rfl, hb, rb⟩ := hy
      have la := ra.length
      have lb := rb.length
      refine ⟨a, b, vs, ws, rfl, rfl, KTup.sq ha, KTup.sq hb, by omega, fun e => ?_, fun _ e => ?_, fun _ _ p u hp hu => ?_⟩
      · subst e
        have : xs = [] := List.eq_nil_of_length_eq_zero (by simpa using la)
        subst this
        exact k ρ H _ Ext.refl t ⟨b, ws, rfl, hb, rb⟩
      · subst e
        have : ys = [] := List.eq_nil_of_length_eq_zero (by simpa using lb)
        subst this
        rw [List.append_nil] at k
        exact k ρ H _ Ext.refl t ⟨a, vs, rfl, ha, ra⟩
      · exact k ρ _ _ (Ext.new hp) (t.new hp) (Rep.tupNew t (ra.append rb) hp hu)
    · cases hz
  · cases hz
theorem Rep.lstNew {G : Gx} {ρ : List Addr} {H : Hp} {L : Store} {p : Addr} {xs : List PV} {vs : List V} (t : Rst G ρ L H) (h : Reps G ρ H xs vs) (hp : H p = none) (o : Obj) :
    Ext ρ ρ H (upd (upd H p (.lst vs)) p (.frz o (.lst vs))) ∧ Rst G ρ L (upd (upd H p (.lst vs)) p (.frz o (.lst vs))) ∧ Rep G ρ (upd (upd H p (.lst vs)) p (.frz o (.lst vs))) (.lst xs) (.ref p) := by
  rw [upd_upd]
  exact ⟨Ext.new hp, t.new hp, p, o, vs, rfl, t.fresh hp, upd_same, h.mono (Ext.new hp).toStb⟩
theorem o2_addL : Op2F G hAddL rCatF := by
  intro ρ L H x y z v w Q t hx hy hz k
  unfold hAddL at hz
  split at hz
  · rename_i xs ys
    split at hz
    · rename_i hl
      cases hz
      obtain ⟨a, o, vs, rfl, _, ha, ra⟩ := hx
      obtain ⟨b, o', ws, rfl, _, hb, rb⟩ := hy
      have la := ra.length
      have lb := rb.length
      refine ⟨a, b, vs, ws, rfl, rfl, .inr ⟨o, ha⟩, .inr ⟨o', hb⟩, by omega, fun p hp => .inr ⟨p, _, rfl, upd_same, trivial, fun od => ?_⟩⟩
      obtain ⟨h1, h2, h3⟩ := Rep.lstNew t (ra.append rb) hp od
      exact k ρ _ _ h1 h2 h3
    · cases hz
  · cases hz
end
theorem ev_add {X : Cx} {c : FC} {a b : Expr} {f g : EF} {pos : Pos} (ha : EV X c a f) (hb : EV X c b g) : EV X c (.BinOp a .Add b pos) (eOp hAdd f g) := by
  refine ev_opF ((op_add.or op_add_str).or ((FT.op_catM (m := c.kt)).or op_catF)) ?_ ha hb
  refine Op2.or (h1 := fun x y => match x, y with
    | .int i, .int j => some (.int (i + j))
    | .str x, .str y => if x.length + y.length ≤ sizeLine then some (.str (x ++ y)) else none
    | _, _ => none) (h2 := fun x y => match x, y with
    | .tup xs, .tup ys => if xs.length + ys.length ≤ sizeLine then some (.tup (xs ++ ys)) else none
    | .lst xs, .lst ys => if xs.length + ys.length ≤ sizeLine then some (.lst (xs ++ ys)) else none
    | _, _ => none) (Op2.or (h1 := hAddI) (h2 := hAddS) (.of o2_addI) (.of o2_addS) ?_) (Op2.or (h1 := hAddT) (h2 := hAddL) (.of (o2_addT rfl)) o2_addL ?_) ?_
  · intro x y z h
    cases x <;> cases y <;> first | exact .inl h | exact .inr h | (cases h)
  · intro x y z h
    cases x <;> cases y <;> first | exact .inl h | exact .inr h | (cases h)
  · intro x y z h
    cases x <;> cases y <;> first | exact .inl h | exact .inr h | (cases h)
theorem ev_sub {X : Cx} {c : FC} {a b : Expr} {f g : EF} {pos : Pos} (ha : EV X c a f) (hb : EV X c b g) : EV X c (.BinOp a .Sub b pos) (eOp hSub f g) := ev_op op_sub o2_sub ha hb
theorem ev_mod {X : Cx} {c : FC} {a b : Expr} {f g : EF} {pos : Pos} (ha : EV X c a f) (hb : EV X c b g) : EV X c (.BinOp a .Mod b pos) (eOp hMod f g) := ev_op op_mod o2_mod ha hb
theorem ev_fdiv {X : Cx} {c : FC} {a b : Expr} {f g : EF} {pos : Pos} (ha : EV X c a f) (hb : EV X c b g) : EV X c (.BinOp a .FloorDiv b pos) (eOp hDiv f g) := ev_op op_fdivW o2_div ha hb
theorem ev_pow {X : Cx} {c : FC} {a b : Expr} {f g : EF} {pos : Pos} (ha : EV X c a f) (hb : EV X c b g) : EV X c (.BinOp a .Pow b pos) (eOp hPow f g) := ev_op op_pow o2_pow ha hb
/-- -a -/
def eNeg (f : EF) : EF := fun s L => bnd (f s L) fun v L1 => match v with
  | .int i => some (.ok (.int (-i)) L1)
  | _ => none
theorem ev_neg {X : Cx} {c : FC} {a : Expr} {f : EF} {pos : Pos} (ha : EV X c a f) : EV X c (.UnaryOp .USub a pos) (eNeg f) := by
  refine pe_imp (pe_un un_neg ha) fun σ H Q h => ?_
  refine tOf.first (R := RE _) (R' := RE _) (k := fun s v L1 => match v with
    | .int i => some (.ok (.int (-i)) L1)
    | _ => none) h fun ρ L s v L1 ρ1 H1 u r e1 q1 o => ?_
  split at o
  · exact ⟨_, q1, o ρ1 H1 _ Ext.refl r.st rfl⟩
  · exact o.elim

/-! ### a * b: numbers, a list or a tuple repeated -/
def hMulI : PV → PV → Option PV
  | .int i, .int j => if i.natAbs.log2 + j.natAbs.log2 < 1000000 then some (.int (i * j)) else none
  | _, _ => none
theorem o2_mulI {G : Gx} : Op2 G hMulI (rI CMulW fun i j => .int (i * j)) := .ints (g' := fun i j => .int (i * j)) (fun _ _ _ _ => rfl) fun x y z h => by
  unfold hMulI at h
  split at h
  · split at h
    · rename_i hj
      cases h; exact ⟨_, _, rfl, rfl, hj, rfl⟩
    · cases h
  · cases h
theorem ev_mul {X : Cx} {c : FC} {a b : Expr} {f g : EF} {pos : Pos} (ha : EV X c a f) (hb : EV X c b g) : EV X c (.BinOp a .Mult b pos) (eOp hMulI f g) := ev_op op_mulW o2_mulI ha hb

/-! ### order -/
def intsOf : List PV → Option (List Int)
  | [] => some []
  | .int i :: r => (intsOf r).map (i :: ·)
  | _ :: _ => none
theorem intsOf_some : ∀ {xs : List PV} {ns : List Int}, intsOf xs = some ns → xs = ns.map PV.int
  | [], ns, h => by cases h; rfl
  | x :: r, ns, h => by
    cases x with
    | int i =>
      unfold intsOf at h
      cases e : intsOf r with
      | none => rw [e] at h; cases h
      | some ms =>
        rw [e] at h; cases h
        rw [intsOf_some e]; rfl
    | _ => cases h
theorem reps_ints_inv {G : Gx} {ρ : List Addr} {H : Hp} : ∀ {ns : List Int} {vs : List V}, Reps G ρ H (ns.map PV.int) vs → vs = ns.map V.int
  | [], vs, h => h
  | n :: ns, vs, h => by
    obtain ⟨v, r, rfl, h1, h2⟩ := h
    rw [show v = V.int n from h1, reps_ints_inv h2]; rfl
def hLt : PV → PV → Option PV
  | .int i, .int j => some (.bl (decide (i < j)))
  | .str x, .str y => some (.bl (decide (x.cps.toList < y.cps.toList)))
  | .tup xs, .tup ys => (intsOf xs).bind fun ns => (intsOf ys).map fun ms => .bl (HT.lexLt ns ms)
  | _, _ => none
def rLtS : R2 := fun x y H Q => ∃ i j, x = .str i ∧ y = .str j ∧ Q (.bl (decide (i.cps.toList < j.cps.toList))) H
theorem o2_lt {G : Gx} {K : PySem.W.Frag} (hK : G.K = K) : Op2 G hLt (fun x y H Q => (rI0 (fun i j => V.bl (decide (i < j))) x y H Q ∨ rLtS x y H Q) ∨ rLtT K x y H Q) := by
  subst hK
  intro ρ L H x y z v w Q t hx hy hz k
  unfold hLt at hz
  split at hz
  · cases hz
    exact .inl (.inl ⟨_, _, hx, hy, k ρ H _ Ext.refl t rfl⟩)
  · cases hz
    exact .inl (.inr ⟨_, _, hx, hy, k ρ H _ Ext.refl t rfl⟩)
  · rename_i xs ys
    cases e1 : intsOf xs with
    | none => rw [e1] at hz; cases hz
    | some ns =>
      cases e2 : intsOf ys with
      | none => rw [e1, e2] at hz; cases hz
      | some ms =>
        rw [e1, e2] at hz
        cases hz
        have := intsOf_some e1
        subst this
        have := intsOf_some e2
        subst this
        obtain ⟨a, vs, rfl, ha, ra⟩ := hx
        obtain ⟨b, ws, rfl, hb, rb⟩ := hy
        have := reps_ints_inv ra
        subst this
        have := reps_ints_inv rb
        subst this
        exact .inr ⟨a, b, ns, ms, rfl, rfl, KTup.sq ha, KTup.sq hb, k ρ H _ Ext.refl t rfl⟩
  · cases hz
def hCmp (p : Int → Int → Bool) : PV → PV → Option PV
  | .int i, .int j => some (.bl (p i j))
  | _, _ => none
theorem o2_cmp {G : Gx} (p : Int → Int → Bool) : Op2 G (hCmp p) (rI0 fun i j => .bl (p i j)) := .ints0 (g' := fun i j => .bl (p i j)) (fun _ _ _ _ => rfl) fun x y z h => by
  unfold hCmp at h
  split at h
  · cases h; exact ⟨_, _, rfl, rfl, rfl⟩
  · cases h
abbrev hLe := hCmp fun i j => decide (i ≤ j)
abbrev hGt := hCmp fun i j => decide (j < i)
abbrev hGe := hCmp fun i j => decide (j ≤ i)
theorem op_ltAll {X : Cx} (hu : X.A.units < cLine) : OpR X (compareOp .Lt) (fun x y H Q => (rI0 (fun i j => V.bl (decide (i < j))) x y H Q ∨ rLtS x y H Q) ∨ rLtT X.K x y H Q) := (op_lt.or op_lt_str).or (op_ltT hu)

/-! ### is -/
def isNon : PV → Bool
  | .non => true
  | _ => false
def hIs : PV → PV → Option PV
  | .bl a, .bl b => some (.bl (decide (a = b)))
  | x, .non => some (.bl (isNon x))
  | _, _ => none
def hIsNot : PV → PV → Option PV
  | .bl a, .bl b => some (.bl (!decide (a = b)))
  | x, .non => some (.bl (!isNon x))
  | _, _ => none
theorem rep_non {G : Gx} {ρ : List Addr} {H : Hp} {x : PV} {v : V} (h : Rep G ρ H x v) : decide (v = .non) = isNon x := by
  cases x with
  | non => cases (show v = .non from h); rfl
  | bl b => cases (show v = .bl b from h); rfl
  | int i => cases (show v = .int i from h); rfl
  | str x => cases (show v = .str x from h); rfl
  | tup xs => obtain ⟨a, _, rfl, _⟩ := h; rfl
  | lst xs => obtain ⟨a, _, _, rfl, _⟩ := h; rfl
  | dk ks xs => obtain ⟨a, _, _, rfl, _⟩ := h; rfl
  | dt ks xs => obtain ⟨a, _, _, rfl, _⟩ := h; rfl
  | loc n => obtain ⟨a, rfl, _⟩ := h; rfl
  | scr n => obtain ⟨a, rfl, _⟩ := h; rfl
theorem o2_is {G : Gx} : Op2 G hIs (fun x y H Q => rIsB x y H Q ∨ (y = .non ∧ Q (.bl (decide (x = .non))) H)) := by
  intro ρ L H x y z v w Q t hx hy hz k
  unfold hIs at hz
  split at hz
  · cases hz
    exact .inl ⟨_, _, hx, hy, k ρ H _ Ext.refl t rfl⟩
  · cases hz
    refine .inr ⟨hy, ?_⟩
    rw [rep_non hx]
    exact k ρ H _ Ext.refl t rfl
  · cases hz
theorem o2_isNot {G : Gx} : Op2 G hIsNot (fun x y H Q => rNotB x y H Q ∨ (y = .non ∧ Q (.bl (!decide (x = .non))) H)) := by
  intro ρ L H x y z v w Q t hx hy hz k
  unfold hIsNot at hz
  split at hz
  · cases hz
    exact .inl ⟨_, _, hx, hy, k ρ H _ Ext.refl t rfl⟩
  · cases hz
    refine .inr ⟨hy, ?_⟩
    rw [rep_non hx]
    exact k ρ H _ Ext.refl t rfl
  · cases hz

/-! ### == of data -/
mutual
def pveq : PV → PV → Bool
  | .non, .non => true
  | .bl a, .bl b => a == b
  | .bl a, .int j => (if a then 1 else 0) == j
  | .int i, .bl b => i == (if b then 1 else 0)
  | .int i, .int j => i == j
  | .str x, .str y => x == y
  | .lst xs, .lst ys => pveqs xs ys
  | .tup xs, .tup ys => pveqs xs ys
  | _, _ => false
def pveqs : List PV → List PV → Bool
  | [], [] => true
  | x :: xs, y :: ys => pveq x y && pveqs xs ys
  | _, _ => false
end
mutual
def dOk : Nat → PV → Bool
  | _, .non => true
  | _, .bl _ => true
  | _, .int _ => true
  | _, .str x => PyData.strOk x
  | n + 1, .lst xs => dOks n xs
  | n + 1, .tup xs => dOks n xs
  | _, _ => false
def dOks : Nat → List PV → Bool
  | _, [] => true
  | n, x :: xs => dOk n x && dOks n xs
end
def hEq (x y : PV) : Option PV := if dOk 64 x = true ∧ dOk 64 y = true then some (.bl (pveq x y)) else none
def hNe (x y : PV) : Option PV := if dOk 64 x = true ∧ dOk 64 y = true then some (.bl (!pveq x y)) else none
mutual
def toD : PV → PyData
  | .non => .none
  | .bl b => .bool b
  | .int i => .int i
  | .str x => .str x
  | .lst xs => .list (toDs xs)
  | .tup xs => .tuple (toDs xs)
  | _ => .none
def toDs : List PV → List PyData
  | [] => []
  | x :: xs => toD x :: toDs xs
end
end Fx

set_option Elab.async false
set_option linter.all false
set_option maxRecDepth 100000
set_option maxHeartbeats 1000000
/-! Fx part 4: == of data; what is asked of lists, tuples, texts, dicts. -/
namespace Fx
open PySem L2

/-! ### == and != -/
mutual
theorem rep_dp {G : Gx} {ρ : List Addr} {H : Hp} : ∀ {n : Nat} {x : PV} {v : V}, dOk n x = true → Rep G ρ H x v → Dp G.K H v (toD x)
  | n, .non, v, _, h => by rw [show v = .non from h]; exact .non
  | n, .bl b, v, _, h => by rw [show v = .bl b from h]; exact .bl b
  | n, .int i, v, _, h => by rw [show v = .int i from h]; exact .int i
  | n, .str x, v, _, h => by rw [show v = .str x from h]; exact .str x
  | n, .tup xs, v, d, h => by
    obtain ⟨a, vs, rfl, ha, hr⟩ := h
    cases n with
    | zero => simp [dOk] at d
    | succ n => exact .tup (KTup.sq ha) (reps_dp (n := n) (by simpa [dOk] using d) hr)
  | n, .lst xs, v, d, h => by
    obtain ⟨a, o, vs, rfl, _, ha, hr⟩ := h
    cases n with
    | zero => simp [dOk] at d
    | succ n => exact .lst (.inl (.inr ⟨o, ha⟩)) (reps_dp (n := n) (by simpa [dOk] using d) hr)
  | n, .dk _ _, v, d, h => by cases n <;> simp [dOk] at d
  | n, .dt _ _, v, d, h => by cases n <;> simp [dOk] at d
  | n, .loc _, v, d, h => by cases n <;> simp [dOk] at d
  | n, .scr _, v, d, h => by cases n <;> simp [dOk] at d
theorem reps_dp {G : Gx} {ρ : List Addr} {H : Hp} : ∀ {n : Nat} {xs : List PV} {vs : List V}, dOks n xs = true → Reps G ρ H xs vs → DpAll G.K H vs (toDs xs)
  | n, [], vs, _, h => by rw [show vs = [] from h]; exact .nil
  | n, x :: xs, vs, d, h => by
    obtain ⟨v, r, rfl, h1, h2⟩ := h
    have d' : dOk n x = true ∧ dOks n xs = true := by simpa [dOks] using d
    exact .cons (rep_dp d'.1 h1) (reps_dp d'.2 h2)
end
mutual
theorem toD_eqv : ∀ {n m : Nat} {x y : PV}, dOk n x = true → dOk m y = true → PyData.eqv (toD x) (toD y) = pveq x y
  | n, m, .non, y, d, e => by cases y <;> first | (cases m <;> simp [dOk] at e; done) | simp [toD, PyData.eqv, pveq]
  | n, m, .bl b, y, d, e => by cases y <;> first | (cases m <;> simp [dOk] at e; done) | simp [toD, PyData.eqv, pveq]
  | n, m, .int b, y, d, e => by cases y <;> first | (cases m <;> simp [dOk] at e; done) | simp [toD, PyData.eqv, pveq]
  | n, m, .str b, y, d, e => by cases y <;> first | (cases m <;> simp [dOk] at e; done) | simp [toD, PyData.eqv, pveq]
  | n, m, .tup xs, y, d, e => by
    cases n with
    | zero => simp [dOk] at d
    | succ n =>
      cases y with
      | tup ys =>
        cases m with
        | zero => simp [dOk] at e
        | succ m => simp only [toD, PyData.eqv, pveq]; exact toDs_eqv (n := n) (m := m) (by simpa [dOk] using d) (by simpa [dOk] using e)
      | dk _ _ => cases m <;> simp [dOk] at e
      | dt _ _ => cases m <;> simp [dOk] at e
      | loc _ => cases m <;> simp [dOk] at e
      | scr _ => cases m <;> simp [dOk] at e
      | _ => simp [toD, PyData.eqv, pveq]
  | n, m, .lst xs, y, d, e => by
    cases n with
    | zero => simp [dOk] at d
    | succ n =>
      cases y with
      | lst ys =>
        cases m with
        | zero => simp [dOk] at e
        | succ m => simp only [toD, PyData.eqv, pveq]; exact toDs_eqv (n := n) (m := m) (by simpa [dOk] using d) (by simpa [dOk] using e)
      | dk _ _ => cases m <;> simp [dOk] at e
      | dt _ _ => cases m <;> simp [dOk] at e
      | loc _ => cases m <;> simp [dOk] at e
      | scr _ => cases m <;> simp [dOk] at e
      | _ => simp [toD, PyData.eqv, pveq]
  | n, m, .dk _ _, y, d, e => by cases n <;> simp [dOk] at d
  | n, m, .dt _ _, y, d, e => by cases n <;> simp [dOk] at d
  | n, m, .loc _, y, d, e => by cases n <;> simp [dOk] at d
  | n, m, .scr _, y, d, e => by cases n <;> simp [dOk] at d
theorem toDs_eqv : ∀ {n m : Nat} {xs ys : List PV}, dOks n xs = true → dOks m ys = true → PyData.eqvAll (toDs xs) (toDs ys) = pveqs xs ys
  | n, m, [], ys, d, e => by cases ys <;> simp [toDs, PyData.eqvAll, pveqs]
  | n, m, x :: xs, [], d, e => by simp [toDs, PyData.eqvAll, pveqs]
  | n, m, x :: xs, y :: ys, d, e => by
    have d' : dOk n x = true ∧ dOks n xs = true := by simpa [dOks] using d
    have e' : dOk m y = true ∧ dOks m ys = true := by simpa [dOks] using e
    simp only [toDs, PyData.eqvAll, pveqs, toD_eqv d'.1 e'.1, toDs_eqv d'.2 e'.2]
end
mutual
theorem toD_lay : ∀ {n : Nat} {x : PV}, dOk n x = true → (toD x).canLay0 = true ∧ (toD x).depth ≤ n
  | n, .non, d => ⟨rfl, by simp [toD, PyData.depth]⟩
  | n, .bl b, d => ⟨rfl, by simp [toD, PyData.depth]⟩
  | n, .int i, d => ⟨rfl, by simp [toD, PyData.depth]⟩
  | n, .str x, d => ⟨by cases n <;> simpa [dOk, toD, PyData.canLay0] using d, by simp [toD, PyData.depth]⟩
  | n, .tup xs, d => by
    cases n with
    | zero => simp [dOk] at d
    | succ n =>
      obtain ⟨h1, h2⟩ := toDs_lay (n := n) (xs := xs) (by simpa [dOk] using d)
      exact ⟨by simpa [toD, PyData.canLay0] using h1, by simpa [toD, PyData.depth] using h2⟩
  | n, .lst xs, d => by
    cases n with
    | zero => simp [dOk] at d
    | succ n =>
      obtain ⟨h1, h2⟩ := toDs_lay (n := n) (xs := xs) (by simpa [dOk] using d)
      exact ⟨by simpa [toD, PyData.canLay0] using h1, by simpa [toD, PyData.depth] using h2⟩
  | n, .dk _ _, d => by cases n <;> simp [dOk] at d
  | n, .dt _ _, d => by cases n <;> simp [dOk] at d
  | n, .loc _, d => by cases n <;> simp [dOk] at d
  | n, .scr _, d => by cases n <;> simp [dOk] at d
theorem toDs_lay : ∀ {n : Nat} {xs : List PV}, dOks n xs = true → PyData.canLayAll0 (toDs xs) = true ∧ PyData.depthAll (toDs xs) ≤ n
  | n, [], d => ⟨rfl, by simp [toDs, PyData.depthAll]⟩
  | n, x :: xs, d => by
    have d' : dOk n x = true ∧ dOks n xs = true := by simpa [dOks] using d
    obtain ⟨h1, h2⟩ := toD_lay d'.1
    obtain ⟨h3, h4⟩ := toDs_lay d'.2
    exact ⟨by simp [toDs, PyData.canLayAll0, h1, h3], by simp only [toDs, PyData.depthAll]; omega⟩
end
theorem toD_shaped {x : PV} (h : dOk 64 x = true) : SeqAt.shaped (toD x) = true := by
  obtain ⟨h1, h2⟩ := toD_lay h
  unfold SeqAt.shaped
  simp [h1, h2]
section
variable {G : Gx} {K : PySem.W.Frag}
theorem o2_eq (hK : G.K = K) : Op2 G hEq (rEqD K) := by
  subst hK
  intro ρ L H x y z v w Q t hx hy hz k
  unfold hEq at hz
  split at hz
  · rename_i hd
    cases hz
    refine ⟨toD x, toD y, rep_dp hd.1 hx, rep_dp hd.2 hy, toD_shaped hd.1, toD_shaped hd.2, ?_⟩
    rw [toD_eqv hd.1 hd.2]
    exact k ρ H _ Ext.refl t rfl
  · cases hz
theorem o2_ne (hK : G.K = K) : Op2 G hNe (rNeD K) := by
  subst hK
  intro ρ L H x y z v w Q t hx hy hz k
  unfold hNe at hz
  split at hz
  · rename_i hd
    cases hz
    refine ⟨toD x, toD y, rep_dp hd.1 hx, rep_dp hd.2 hy, toD_shaped hd.1, toD_shaped hd.2, ?_⟩
    rw [toD_eqv hd.1 hd.2]
    exact k ρ H _ Ext.refl t rfl
  · cases hz
end

/-! ### what a thing holds -/
inductive Vw where
  | lst (xs : List PV) | tup (xs : List PV) | str (x : Str)
  | dk (kvs : List (Key × PV)) | dt (kvs : List (List Key × PV))
def cellV : Cell → Option Vw
  | .lst xs => some (.lst xs)
  | .dk kvs => some (.dk kvs)
  | .dt kvs => some (.dt kvs)
  | .ins _ _ => none
def view (L : Store) : Hd → Option Vw
  | .o c => cellV c
  | .v (.lst xs) => some (.lst xs)
  | .v (.tup xs) => some (.tup xs)
  | .v (.str x) => some (.str x)
  | .v (.dk ks xs) => some (.dk (ks.zip xs))
  | .v (.dt ks xs) => some (.dt (ks.zip xs))
  | .v (.loc n) => match L[n]? with
    | some c => cellV c
    | none => none
  | .v _ => none
def DRep {κ : Type} (G : Gx) (ρ : List Addr) (H : Hp) (kvs : List (κ × PV)) (l : List (κ × V)) : Prop := l.map (·.1) = kvs.map (·.1) ∧ Reps G ρ H (kvs.map (·.2)) (l.map (·.2))
def VRep (G : Gx) (ρ : List Addr) (H : Hp) : Vw → V → Prop
  | .lst xs, v => ∃ a vs, v = .ref a ∧ Rd H a (.lst vs) ∧ Reps G ρ H xs vs
  | .tup xs, v => ∃ a vs, v = .ref a ∧ SqT G.K H a vs ∧ Reps G ρ H xs vs
  | .str x, v => v = .str x
  | .dk kvs, v => ∃ a l, v = .ref a ∧ Rd H a (.dK l) ∧ DRep G ρ H kvs l
  | .dt kvs, v => ∃ a l, v = .ref a ∧ Rd H a (.dT l) ∧ DRep G ρ H kvs l
theorem zip_fst {κ α : Type} : ∀ (ks : List κ) (xs : List α), ks.length = xs.length → (ks.zip xs).map (·.1) = ks ∧ (ks.zip xs).map (·.2) = xs
  | [], [], _ => ⟨rfl, rfl⟩
  | k :: ks, x :: xs, h => by
    obtain ⟨h1, h2⟩ := zip_fst ks xs (by simpa using h)
    exact ⟨by simp [h1], by simp [h2]⟩
  | [], x :: xs, h => by simp at h
  | k :: ks, [], h => by simp at h
theorem cell_view {G : Gx} {ρ : List Addr} {H : Hp} {a : Addr} {c : Cell} {w : Vw} (h : CRep G ρ H a c) (e : cellV c = some w) : VRep G ρ H w (.ref a) := by
  cases c with
  | lst xs => cases e; obtain ⟨vs, h1, h2⟩ := h; exact ⟨a, vs, rfl, .inl h1, h2⟩
  | dk kvs => cases e; obtain ⟨l, h1, h2⟩ := h; exact ⟨a, l, rfl, .inl h1, h2⟩
  | dt kvs => cases e; obtain ⟨l, h1, h2⟩ := h; exact ⟨a, l, rfl, .inl h1, h2⟩
  | ins C fs => cases e
theorem view_rep {G : Gx} {ρ : List Addr} {H : Hp} {L : Store} {x : Hd} {v : V} {w : Vw} (t : Rst G ρ L H) (h : HRep G ρ H x v) (e : view L x = some w) : VRep G ρ H w v := by
  cases x with
  | o c =>
    obtain ⟨a, rfl, _, h⟩ := h
    exact cell_view h e
  | v x =>
    cases x with
    | lst xs => cases e; obtain ⟨a, o, vs, rfl, _, h1, h2⟩ := h; exact ⟨a, vs, rfl, .inr ⟨o, h1⟩, h2⟩
    | tup xs => cases e; obtain ⟨a, vs, rfl, h1, h2⟩ := h; exact ⟨a, vs, rfl, KTup.sq h1, h2⟩
    | str x => cases e; exact h
    | dk ks xs =>
      cases e
      obtain ⟨a, o, l, rfl, _, h1, h2, h3⟩ := h
      have hl : ks.length = xs.length := by rw [h3.length, ← h2]; simp
      obtain ⟨z1, z2⟩ := zip_fst ks xs hl
      exact ⟨a, l, rfl, .inr ⟨o, h1⟩, by rw [z1]; exact h2, by rw [z2]; exact h3⟩
    | dt ks xs =>
      cases e
      obtain ⟨a, o, l, rfl, _, h1, h2, h3⟩ := h
      have hl : ks.length = xs.length := by rw [h3.length, ← h2]; simp
      obtain ⟨z1, z2⟩ := zip_fst ks xs hl
      exact ⟨a, l, rfl, .inr ⟨o, h1⟩, by rw [z1]; exact h2, by rw [z2]; exact h3⟩
    | loc n =>
      obtain ⟨a, rfl, ha⟩ := h
      have e : (match L[n]? with
        | some c => cellV c
        | none => none) = some w := e
      cases hc : L[n]? with
      | none => rw [hc] at e; cases e
      | some c =>
        rw [hc] at e
        exact cell_view (t.cell _ c a hc ha) e
    | _ => cases e

/-! ### dicts -/
section
variable {κ : Type} [DecidableEq κ]
def look (kvs : List (κ × PV)) (k : κ) : Option PV := (kvs.find? fun kv => decide (kv.1 = k)).map (·.2)
def put (kvs : List (κ × PV)) (k : κ) (v : PV) : List (κ × PV) :=
  if (kvs.any fun kv => decide (kv.1 = k)) = true then kvs.map (fun kv => if kv.1 = k then (kv.1, v) else kv) else kvs ++ [(k, v)]
def drp (kvs : List (κ × PV)) (k : κ) : List (κ × PV) := kvs.filter fun kv => decide (kv.1 ≠ k)
theorem DRep.nil {G : Gx} {ρ : List Addr} {H : Hp} : DRep G ρ H ([] : List (κ × PV)) [] := ⟨rfl, rfl⟩
theorem DRep.cons_inv {G : Gx} {ρ : List Addr} {H : Hp} {p : κ × PV} {kvs : List (κ × PV)} {l : List (κ × V)} (h : DRep G ρ H (p :: kvs) l) : ∃ v r, l = (p.1, v) :: r ∧ Rep G ρ H p.2 v ∧ DRep G ρ H kvs r := by
  obtain ⟨h1, h2⟩ := h
  cases l with
  | nil => cases h1
  | cons q r =>
    obtain ⟨k, v⟩ := q
    rw [List.map_cons, List.map_cons] at h1
    have e1 : k = p.1 := (List.cons.inj h1).1
    have e2 := (List.cons.inj h1).2
    obtain ⟨v', r', e3, h3, h4⟩ := h2
    rw [List.map_cons] at e3
    have e4 := List.cons.inj e3
    exact ⟨v, r, by rw [e1], by rw [show v = v' from e4.1]; exact h3, e2, by rw [e4.2]; exact h4⟩
theorem DRep.cons {G : Gx} {ρ : List Addr} {H : Hp} {k : κ} {x : PV} {v : V} {kvs : List (κ × PV)} {l : List (κ × V)} (h : Rep G ρ H x v) (t : DRep G ρ H kvs l) : DRep G ρ H ((k, x) :: kvs) ((k, v) :: l) :=
  ⟨by simp [t.1], ⟨v, _, rfl, h, t.2⟩⟩
theorem DRep.length {G : Gx} {ρ : List Addr} {H : Hp} {kvs : List (κ × PV)} {l : List (κ × V)} (h : DRep G ρ H kvs l) : kvs.length = l.length := by
  have := congrArg List.length h.1
  simpa using this.symm
theorem DRep.mono {G : Gx} {ρ ρ' : List Addr} {H H' : Hp} {kvs : List (κ × PV)} {l : List (κ × V)} (h : DRep G ρ H kvs l) (e : Stb ρ ρ' H H') : DRep G ρ' H' kvs l := ⟨h.1, h.2.mono e⟩
theorem DRep.look {G : Gx} {ρ : List Addr} {H : Hp} {k : κ} : ∀ {kvs : List (κ × PV)} {l : List (κ × V)}, DRep G ρ H kvs l → (∀ x, Fx.look kvs k = some x → ∃ v, valV l k = some v ∧ Rep G ρ H x v) ∧ (Fx.look kvs k = none → valV l k = none)
  | [], l, h => by
    have : l = [] := List.eq_nil_of_length_eq_zero (by rw [← h.length]; rfl)
    subst this
    exact ⟨fun x e => (by cases e), fun _ => rfl⟩
  | p :: kvs, l, h => by
    obtain ⟨v, r, rfl, h1, h2⟩ := h.cons_inv
    obtain ⟨i1, i2⟩ := DRep.look (k := k) h2
    by_cases e : p.1 = k
    · rw [valV_pos (p := (p.1, v)) e]
      have e2 : Fx.look (p :: kvs) k = some p.2 := by simp [Fx.look, List.find?_cons, e]
      rw [e2]
      exact ⟨fun x q => by cases q; exact ⟨v, rfl, h1⟩, fun q => by cases q⟩
    · rw [valV_neg (p := (p.1, v)) e]
      have e2 : Fx.look (p :: kvs) k = Fx.look kvs k := by simp [Fx.look, List.find?_cons, e]
      rw [e2]
      exact ⟨i1, i2⟩
theorem DRep.any {G : Gx} {ρ : List Addr} {H : Hp} {k : κ} {kvs : List (κ × PV)} {l : List (κ × V)} (h : DRep G ρ H kvs l) : (kvs.any fun kv => decide (kv.1 = k)) = (l.any fun kv => decide (kv.1 = k)) := by
  have e1 : (kvs.any fun kv => decide (kv.1 = k)) = ((kvs.map (·.1)).any fun x => decide (x = k)) := by rw [List.any_map]; rfl
  have e2 : (l.any fun kv => decide (kv.1 = k)) = ((l.map (·.1)).any fun x => decide (x = k)) := by rw [List.any_map]; rfl
  rw [e1, e2, h.1]
theorem DRep.append {G : Gx} {ρ : List Addr} {H : Hp} {kvs kvs' : List (κ × PV)} {l l' : List (κ × V)} (h : DRep G ρ H kvs l) (h' : DRep G ρ H kvs' l') : DRep G ρ H (kvs ++ kvs') (l ++ l') :=
  ⟨by simp [h.1, h'.1], by simpa using h.2.append h'.2⟩
theorem DRep.map {G : Gx} {ρ : List Addr} {H : Hp} {k : κ} {x : PV} {v : V} (hx : Rep G ρ H x v) : ∀ {kvs : List (κ × PV)} {l : List (κ × V)}, DRep G ρ H kvs l →
    DRep G ρ H (kvs.map fun kv => if kv.1 = k then (kv.1, x) else kv) (l.map fun kv => if kv.1 = k then (kv.1, v) else kv)
  | [], l, h => by
    have : l = [] := List.eq_nil_of_length_eq_zero (by rw [← h.length]; rfl)
    subst this
    exact .nil
  | p :: kvs, l, h => by
    obtain ⟨w, r, rfl, h1, h2⟩ := h.cons_inv
    have ih := DRep.map (k := k) hx h2
    rw [List.map_cons, List.map_cons]
    by_cases e : p.1 = k
    · rw [if_pos e, if_pos e]; exact .cons hx ih
    · rw [if_neg e, if_neg e]; exact .cons h1 ih
theorem DRep.put {G : Gx} {ρ : List Addr} {H : Hp} {k : κ} {x : PV} {v : V} (hx : Rep G ρ H x v) {kvs : List (κ × PV)} {l : List (κ × V)} (h : DRep G ρ H kvs l) : DRep G ρ H (Fx.put kvs k x) (putK l k v) := by
  unfold Fx.put putK
  rw [h.any]
  split
  · exact h.map hx
  · exact h.append (.cons hx .nil)
theorem DRep.drp {G : Gx} {ρ : List Addr} {H : Hp} {k : κ} : ∀ {kvs : List (κ × PV)} {l : List (κ × V)}, DRep G ρ H kvs l → DRep G ρ H (Fx.drp kvs k) (dropK l k)
  | [], l, h => by
    have : l = [] := List.eq_nil_of_length_eq_zero (by rw [← h.length]; rfl)
    subst this
    exact .nil
  | p :: kvs, l, h => by
    obtain ⟨w, r, rfl, h1, h2⟩ := h.cons_inv
    have ih := DRep.drp (k := k) h2
    unfold Fx.drp dropK at *
    rw [List.filter_cons, List.filter_cons]
    by_cases e : p.1 = k
    · simp only [e, ne_eq, not_true_eq_false, decide_false, Bool.false_eq_true, if_false]; exact ih
    · simp only [e, ne_eq, not_false_eq_true, decide_true, if_true]; exact .cons h1 ih
end
/-- keys -/
def keyOf : PV → Option Key
  | .int i => some (.inl i)
  | .str x => some (.inr x)
  | _ => none
def keysOf : List PV → Option (List Key)
  | [] => some []
  | x :: r => (keyOf x).bind fun k => (keysOf r).map (k :: ·)
def keyP : Key → PV
  | .inl i => .int i
  | .inr x => .str x
theorem keyOf_rep {G : Gx} {ρ : List Addr} {H : Hp} {x : PV} {v : V} {k : Key} (h : Rep G ρ H x v) (e : keyOf x = some k) : v = kV k := by
  cases x with
  | int i => cases e; exact h
  | str x => cases e; exact h
  | _ => cases e
theorem keysOf_rep {G : Gx} {ρ : List Addr} {H : Hp} : ∀ {xs : List PV} {vs : List V} {ks : List Key}, Reps G ρ H xs vs → keysOf xs = some ks → vs = ks.map kV
  | [], vs, ks, h, e => by cases e; exact h
  | x :: xs, vs, ks, h, e => by
    obtain ⟨v, r, rfl, h1, h2⟩ := h
    unfold keysOf at e
    cases e1 : keyOf x with
    | none => rw [e1] at e; cases e
    | some k =>
      rw [e1] at e
      cases e2 : keysOf xs with
      | none => rw [e2] at e; cases e
      | some ks' =>
        rw [e2] at e
        cases e
        rw [keyOf_rep h1 e1, keysOf_rep h2 e2]; rfl
/-- such a tuple is held plainly -/
theorem keys_plain {G : Gx} {ρ : List Addr} {H : Hp} {xs : List PV} {vs : List V} {ks : List Key} {b : Addr} (hk : G.kt = false) (he : xs.isEmpty = false) (h : keysOf xs = some ks) (hr : Reps G ρ H xs vs) (hb : TupAt G ρ H b vs) : H b = some (.tup vs) := by
  have e := keysOf_rep hr h
  have hne : ks ≠ [] := fun q => by
    subst q
    have := hr.length
    rw [e] at this
    cases xs with
    | nil => cases he
    | cons _ _ => simp at this
  have hp : FT.plK vs = true := by
    subst e
    unfold FT.plK
    rw [Bool.and_eq_true]
    refine ⟨?_, List.all_eq_true.mpr fun v hv => ?_⟩
    · cases ks with
      | nil => exact absurd rfl hne
      | cons _ _ => rfl
    · obtain ⟨k, _, rfl⟩ := List.mem_map.mp hv
      cases k <;> rfl
  have hf : FT.frzT G.kt vs = false := by unfold FT.frzT; rw [hk, hp]; rfl
  rcases hb with ⟨_, q⟩ | ⟨q, _⟩
  · exact q
  · rw [hf] at q; cases q
/-- what a dict has at a key: none: the key is of another kind -/
def dLook : Vw → PV → Option (Option PV)
  | .dk kvs, x => (keyOf x).map (look kvs)
  | .dt kvs, .tup xs => if xs.isEmpty = false then (keysOf xs).map (look kvs) else none
  | _, _ => none
theorem dget_of {G : Gx} {ρ : List Addr} {H : Hp} {w : Vw} {x : PV} {v y : V} {o : Option PV} (hk : G.kt = false ∨ ∃ kvs, w = .dk kvs) (h : VRep G ρ H w v) (hx : Rep G ρ H x y) (e : dLook w x = some o) :
    ∃ a r, v = .ref a ∧ DGet H a y r ∧ (∀ z, o = some z → ∃ u, r = some u ∧ Rep G ρ H z u) ∧ (o = none → r = none) := by
  cases w with
  | dk kvs =>
    obtain ⟨a, l, rfl, h1, h2⟩ := h
    cases ek : keyOf x with
    | none => simp [dLook, ek] at e
    | some k =>
      simp only [dLook, ek, Option.map_some, Option.some.injEq] at e
      obtain ⟨i1, i2⟩ := h2.look (k := k)
      exact ⟨a, _, rfl, .inl ⟨l, k, h1, keyOf_rep hx ek, rfl⟩, fun z q => i1 z (e.trans q), fun q => i2 (e.trans q)⟩
  | dt kvs =>
    obtain ⟨a, l, rfl, h1, h2⟩ := h
    have hk' : G.kt = false := by
      rcases hk with q | ⟨_, q⟩
      · exact q
      · cases q
    cases x with
    | tup xs =>
      obtain ⟨b, vs, rfl, hb, hr⟩ := hx
      have e : (if xs.isEmpty = false then (keysOf xs).map (look kvs) else none) = some o := e
      split at e
      rotate_left
      · cases e
      rename_i hemp
      cases ek : keysOf xs with
      | none => rw [ek] at e; cases e
      | some k =>
        have hb := keys_plain hk' hemp ek hr hb
        simp only [ek, Option.map_some, Option.some.injEq] at e
        have := keysOf_rep hr ek
        subst this
        obtain ⟨i1, i2⟩ := h2.look (k := k)
        exact ⟨a, _, rfl, .inr ⟨l, k, b, h1, rfl, hb, rfl⟩, fun z q => i1 z (e.trans q), fun q => i2 (e.trans q)⟩
    | _ => cases e
  | _ => cases e
end Fx

set_option Elab.async false
set_option linter.all false
set_option maxRecDepth 100000
set_option maxHeartbeats 1000000
/-! Fx part 5: subscripts, slices, in, calls of what is built in. -/
namespace Fx
open PySem L2

/-! ### subscripts -/
def rIxD : R2 := fun x y H Q => ∃ a v, x = .ref a ∧ DGet H a y (some v) ∧ Q v H
theorem ix_dict {X : Cx} (hu : X.A.units + 1 < cLine) : IxR X rIxD := by
  intro value slice pins s σ H x y v u Q I rx ry h hs
  obtain ⟨a, z, rfl, g, q⟩ := h
  obtain rfl : v = .ref a := rx
  exact PyProof.Rows.tail_any (ops := [.ref a, u]) (dict_typeIs I g) PySem.F.slot_dict_getitem.lookup (d_getItem hu I g ry fun w' s3 I3 rw' => ⟨z, H, I3, rw', q⟩) hs
def dLook' (kt : Bool) (w : Vw) (x : PV) : Option (Option PV) := match w, kt with
  | .dt _, true => none
  | _, _ => dLook w x
theorem dget_of' {G : Gx} {ρ : List Addr} {H : Hp} {w : Vw} {x : PV} {v y : V} {o : Option PV} (h : VRep G ρ H w v) (hx : Rep G ρ H x y) (e : dLook' G.kt w x = some o) :
    ∃ a r, v = .ref a ∧ DGet H a y r ∧ (∀ z, o = some z → ∃ u, r = some u ∧ Rep G ρ H z u) ∧ (o = none → r = none) := by
  cases w with
  | dt kvs =>
    cases hk : G.kt with
    | true => rw [hk] at e; cases e
    | false => rw [hk] at e; exact dget_of (.inl hk) h hx e
  | dk kvs => exact dget_of (.inr ⟨kvs, rfl⟩) h hx (by cases hk : G.kt <;> (rw [hk] at e; exact e))
  | lst xs => cases hk : G.kt <;> (rw [hk] at e; cases e)
  | tup xs => cases hk : G.kt <;> (rw [hk] at e; cases e)
  | str xs => cases hk : G.kt <;> (rw [hk] at e; cases e)
theorem Reps.atI {G : Gx} {ρ : List Addr} {H : Hp} {xs : List PV} {vs : List V} {i : Int} {x : PV} (h : Reps G ρ H xs vs) (e : L2.atI xs i = some x) : ∃ v, L2.atI vs i = some v ∧ Rep G ρ H x v := by
  unfold L2.atI at *
  rw [h.length] at e
  cases hi : ixN vs.length i with
  | none => rw [hi] at e; cases e
  | some j =>
    rw [hi] at e
    exact h.get e
def hIx (kt : Bool) (L : Store) (x : Hd) (y : PV) : Option PV := match view L x with
  | some (.lst xs) => match y with
    | .int i => atI xs i
    | _ => none
  | some (.tup xs) => match y with
    | .int i => atI xs i
    | _ => none
  | some (.str z) => match y with
    | .int i => if z.length ≤ sizeLine then (atI z.cps.toList i).map fun c => .str ⟨#[c]⟩ else none
    | _ => none
  | some w => match dLook' kt w y with
    | some (some v) => some v
    | _ => none
  | none => none
def eOpH (h : Store → Hd → PV → Option PV) (f : FF Hd) (g : EF) : EF := fun s L => bnd (f s L) fun x L1 => bnd (g s L1) fun y L2 => ret (h L2 x y) L2
def eOpH' (h : Store → PV → Hd → Option PV) (f : EF) (g : FF Hd) : EF := fun s L => bnd (f s L) fun x L1 => bnd (g s L1) fun y L2 => ret (h L2 x y) L2
def OpH (G : Gx) (h : Store → Hd → PV → Option PV) (r : R2) : Prop := ∀ ρ L H x y z v w Q, Rst G ρ L H → HRep G ρ H x v → Rep G ρ H y w → h L x y = some z →
  (∀ ρ' H' u, Ext ρ ρ' H H' → Rst G ρ' L H' → Rep G ρ' H' z u → Q u H') → r v w H Q
def OpH' (G : Gx) (h : Store → PV → Hd → Option PV) (r : R2) : Prop := ∀ ρ L H x y z v w Q, Rst G ρ L H → Rep G ρ H x v → HRep G ρ H y w → h L x y = some z →
  (∀ ρ' H' u, Ext ρ ρ' H H' → Rst G ρ' L H' → Rep G ρ' H' z u → Q u H') → r v w H Q
section
variable {X : Cx} {c : FC} {a b e : Expr} {f : FF Hd} {g : EF} {pos : Pos}
theorem opH_read {h : Store → Hd → PV → Option PV} {r : R2} (i : OpH (gx X c.kt) h r) {σ : St} {H : Hp} {Q : VK} (q : tOf (gx X c.kt) (RE (gx X c.kt)) c.r0 c.H0 c.W (eOpH h f g) σ H Q) :
    tOp r (tOf (gx X c.kt) (RH (gx X c.kt)) c.r0 c.H0 c.W f) (tOf (gx X c.kt) (RE (gx X c.kt)) c.r0 c.H0 c.W g) σ H Q := by
  refine tOf.first (R := RH _) (k := fun s x L1 => bnd (g s L1) fun y L2 => ret (h L2 x y) L2) q fun ρ L s x L1 ρ1 H1 v R1 e1 q1 o1 => ?_
  refine ⟨ρ1, L1, s, R1, Ou.bind o1 fun y L2 ρ2 H2 w _ e2 t2 q2 o2 => ?_⟩
  obtain ⟨z, hz, k⟩ := Ou.ret o2
  exact i ρ2 L2 H2 x y z v w Q t2 (HRep.ext e2 q1) q2 hz k
theorem opH_read' {h : Store → PV → Hd → Option PV} {r : R2} (i : OpH' (gx X c.kt) h r) {σ : St} {H : Hp} {Q : VK} (q : tOf (gx X c.kt) (RE (gx X c.kt)) c.r0 c.H0 c.W (eOpH' h g f) σ H Q) :
    tOp r (tOf (gx X c.kt) (RE (gx X c.kt)) c.r0 c.H0 c.W g) (tOf (gx X c.kt) (RH (gx X c.kt)) c.r0 c.H0 c.W f) σ H Q := by
  refine tOf.first (R := RE _) (k := fun s x L1 => bnd (f s L1) fun y L2 => ret (h L2 x y) L2) q fun ρ L s x L1 ρ1 H1 v R1 e1 q1 o1 => ?_
  refine ⟨ρ1, L1, s, R1, Ou.bind o1 fun y L2 ρ2 H2 w _ e2 t2 q2 o2 => ?_⟩
  obtain ⟨z, hz, k⟩ := Ou.ret o2
  exact i ρ2 L2 H2 x y z v w Q t2 (Rep.mono e2.toStb q1) q2 hz k
theorem oh_ix {G : Gx} {K : PySem.W.Frag} (hK : G.K = K) : OpH G (hIx G.kt) (fun x y H Q => rIx K x y H Q ∨ rIxD x y H Q) := by
  subst hK
  intro ρ L H x y z v w Q t hx hy hz k
  unfold hIx at hz
  cases hw : view L x with
  | none => rw [hw] at hz; cases hz
  | some vw =>
    rw [hw] at hz
    have hr := view_rep t hx hw
    cases vw with
    | lst xs =>
      cases y with
      | int i =>
        obtain ⟨a, vs, rfl, ha, hs⟩ := hr
        obtain ⟨u, hu, ru⟩ := hs.atI (show atI xs i = some z from hz)
        exact .inl (.inl ⟨a, vs, i, u, rfl, hy, .inl ha, hu, k ρ H u Ext.refl t ru⟩)
      | _ => cases hz
    | tup xs =>
      cases y with
      | int i =>
        obtain ⟨a, vs, rfl, ha, hs⟩ := hr
        obtain ⟨u, hu, ru⟩ := hs.atI (show atI xs i = some z from hz)
        exact .inl (.inr (.inl ⟨a, vs, i, u, rfl, hy, ha, hu, k ρ H u Ext.refl t ru⟩))
      | _ => cases hz
    | str s =>
      cases y with
      | int i =>
        dsimp only at hz
        split at hz
        · rename_i hl
          cases hc : atI s.cps.toList i with
          | none => rw [hc] at hz; cases hz
          | some d =>
            rw [hc] at hz
            cases hz
            exact .inl (.inr (.inr ⟨s, i, d, hr, hy, hl, hc, k ρ H _ Ext.refl t rfl⟩))
        · cases hz
      | _ => cases hz
    | dk kvs =>
      cases hd : dLook' G.kt (.dk kvs) y with
      | none => simp only [hd] at hz; cases hz
      | some o =>
        cases o with
        | none => simp only [hd] at hz; cases hz
        | some z' =>
          simp only [hd] at hz
          cases hz
          obtain ⟨a, r, rfl, hg, h1, _⟩ := dget_of' hr hy hd
          obtain ⟨u, rfl, ru⟩ := h1 _ rfl
          exact .inr ⟨a, u, rfl, hg, k ρ H u Ext.refl t ru⟩
    | dt kvs =>
      cases hd : dLook' G.kt (.dt kvs) y with
      | none => simp only [hd] at hz; cases hz
      | some o =>
        cases o with
        | none => simp only [hd] at hz; cases hz
        | some z' =>
          simp only [hd] at hz
          cases hz
          obtain ⟨a, r, rfl, hg, h1, _⟩ := dget_of' hr hy hd
          obtain ⟨u, rfl, ru⟩ := h1 _ rfl
          exact .inr ⟨a, u, rfl, hg, k ρ H u Ext.refl t ru⟩
theorem IxR.or2 {r r' : R2} (h : IxR X r) (h' : IxR X r') : IxR X (fun x y H Q => r x y H Q ∨ r' x y H Q) := h.or h'
theorem ev_ix {kt : Bool} (hu : X.A.units + 1 < cLine) (hk : c.kt = kt) (ha : HV X c a f) (hb : EV X c b g) (hs : PlainIx b := by exact fun _ _ => rfl) : EV X c (.Subscript a b pos) (eOpH (hIx kt) f g) := by
  subst hk
  exact pe_imp (pe_ix (IxR.or2 ix_seq (ix_dict hu)) ha hb hs) fun _ _ _ q => opH_read (oh_ix rfl) q

/-! ### slices -/
def cutP (xs : List PV) (lo hi : Option Int) : List PV := (xs.drop (HT.sIx xs.length 0 lo)).take (HT.sIx xs.length xs.length hi - HT.sIx xs.length 0 lo)
theorem Reps.cut {G : Gx} {ρ : List Addr} {H : Hp} {xs : List PV} {vs : List V} (h : Reps G ρ H xs vs) (lo hi : Option Int) : Reps G ρ H (cutP xs lo hi) (cutV vs lo hi) := by
  unfold cutP cutV
  rw [h.length]
  exact (h.drop _).take _
def hSlice (L : Store) (x : Hd) (lo hi : Option Int) : Option PV := match view L x with
  | some (.lst xs) => some (.lst (cutP xs lo hi))
  | some (.tup xs) => some (.tup (cutP xs lo hi))
  | some (.str z) => if z.length ≤ sizeLine then some (.str (cutS z lo hi)) else none
  | _ => none
abbrev OF := FF (Option Int)
def RO : RT (Option Int) (Option Int) := fun _ _ _ a b => a = b
instance : RM RO := ⟨fun _ h => h⟩
def OV (X : Cx) (c : FC) (e : Option Expr) (f : OF) : Prop := PO X e (tOf (gx X c.kt) RO c.r0 c.H0 c.W f)
def oNo : OF := fun _ L => some (.ok none L)
def oE (g : EF) : OF := fun s L => bnd (g s L) fun v L1 => match v with
  | .int i => some (.ok (some i) L1)
  | _ => none
theorem po_imp {e : Option Expr} {t t' : TO} (h : PO X e t) (i : ∀ σ H Q, t' σ H Q → t σ H Q) : PO X e t' := ⟨fun pins s σ H Q I q => h.run pins s σ H Q I (i σ H Q q)⟩
theorem ov_no : OV X c none oNo := po_imp po_none fun σ H Q h => by
  obtain ⟨ρ, L, s, r, o⟩ := h
  exact o ρ H _ Ext.refl r.st rfl
theorem ov_e (h : EV X c e g) : OV X c (some e) (oE g) := po_imp (po_some h) fun σ H Q q => by
  refine tOf.first (R := RE _) (R' := RO) (k := fun s v L1 => match v with
    | .int i => some (.ok (some i) L1)
    | _ => none) q fun ρ L s v L1 ρ1 H1 u r e1 q1 o => ?_
  split at o
  · exact ⟨_, q1, o ρ1 H1 _ Ext.refl r.st rfl⟩
  · exact o.elim
def eSlice (f : FF Hd) (lo hi : OF) : EF := fun s L => bnd (f s L) fun x L1 => bnd (lo s L1) fun l L2 => bnd (hi s L2) fun h L3 => ret (hSlice L3 x l h) L3
theorem ev_slice {lo hi : Option Expr} {fl fh : OF} {p2 : Pos} (ha : HV X c a f) (hl : OV X c lo fl) (hh : OV X c hi fh) : EV X c (.Subscript a (.Slice lo hi none p2) pos) (eSlice f fl fh) := by
  refine pe_imp (pe_fq (pe_slice ((sl_list (X := X)).or ((FT.sl_tupM (m := c.kt) (X := X)).or sl_str)) ha hl hh)) fun σ H Q q => ?_
  refine tOf.first (R := RH _) (R' := RE _) (k := fun s x L1 => bnd (fl s L1) fun l L2 => bnd (fh s L2) fun h L3 => ret (hSlice L3 x l h) L3) q fun ρ L s x L1 ρ1 H1 v R1 e1 q1 o1 => ?_
  refine ⟨ρ1, L1, s, R1, Ou.bind (R := RO) (R' := RE _) o1 fun l L2 ρ2 H2 l' _ e2 t2 q2 o2 => ⟨ρ2, L2, s, R1.go e2 t2, Ou.bind (R := RO) (R' := RE _) o2 fun h L3 ρ3 H3 h' _ e3 t3 q3 o3 => ?_⟩⟩
  obtain rfl : l = l' := q2
  obtain rfl : h = h' := q3
  obtain ⟨z, hz, k⟩ := Ou.ret o3
  have q1' := HRep.ext (e2.trans e3) q1
  unfold hSlice at hz
  cases hw : view L3 x with
  | none => rw [hw] at hz; cases hz
  | some vw =>
    rw [hw] at hz
    have hr := view_rep t3 q1' hw
    cases vw with
    | lst xs =>
      cases hz
      obtain ⟨p, vs, rfl, ha, hs⟩ := hr
      refine .inl ⟨p, vs, rfl, .inl ha, fun p hp => .inr ⟨p, _, rfl, upd_same, trivial, fun od => ?_⟩⟩
      obtain ⟨h1, h2, h3⟩ := Rep.lstNew t3 (hs.cut l h) hp od
      exact k ρ3 _ _ h1 h2 h3
    | tup xs =>
      cases hz
      obtain ⟨p, vs, rfl, ha, hs⟩ := hr
      refine .inr (.inl ⟨p, vs, rfl, ha, fun hw' => ?_, fun _ p u hp hu => ?_⟩)
      · have hc : cutP xs l h = xs := by
          unfold cutP
          rw [hs.length, hw'.1, hw'.2, ← hs.length]
          simp
        rw [hc] at k
        cases x with
        | o cc =>
          cases cc <;> cases hw
        | v x =>
          cases x with
          | tup ys =>
            cases hw
            exact .inl (k ρ3 H3 _ Ext.refl t3 q1')
          | loc n =>
            have hw : (match L3[n]? with
              | some c => cellV c
              | none => none) = some (Vw.tup xs) := hw
            cases hc : L3[n]? with
            | none => rw [hc] at hw; cases hw
            | some cc => rw [hc] at hw; cases cc <;> cases hw
          | _ => cases hw
      · exact .inl (k ρ3 _ _ (Ext.new hp) (t3.new hp) (Rep.tupNew t3 (hs.cut l h) hp hu))
    | str s =>
      dsimp only at hz
      split at hz
      · rename_i hl
        cases hz
        exact .inr (.inr ⟨s, hr, hl, .inl (k ρ3 H3 _ Ext.refl t3 rfl)⟩)
      · cases hz
    | _ => cases hz
end
end Fx

set_option Elab.async false
set_option linter.all false
set_option maxRecDepth 100000
set_option maxHeartbeats 1000000
/-! Fx part 6: in; calls of what is built in. -/
namespace Fx
open PySem L2

/-! ### in, not in -/
def flatP : PV → Bool
  | .non => true
  | .bl _ => true
  | .int _ => true
  | .str _ => true
  | _ => false
/-- is it in: none: not served -/
def isIn (kt : Bool) (L : Store) (x : PV) (y : Hd) : Option Bool := match view L y with
  | some (.str z) => match x with
    | .str w => if w.length = 1 then some (decide (w.cps.getD 0 0 ∈ z.cps.toList)) else none
    | _ => none
  | some (.tup xs) => if flatP x = true ∧ xs.all flatP = true then some (xs.any fun z => pveq z x) else none
  | some (.lst xs) => if dOk 64 x = true ∧ dOks 63 xs = true then some (xs.any fun z => pveq z x) else none
  | some w => (dLook' kt w x).map (·.isSome)
  | none => none
def hIn (kt : Bool) (L : Store) (x : PV) (y : Hd) : Option PV := (isIn kt L x y).map PV.bl
def hNotIn (kt : Bool) (L : Store) (x : PV) (y : Hd) : Option PV := (isIn kt L x y).map fun b => PV.bl (!b)
theorem reps_flat {G : Gx} {ρ : List Addr} {H : Hp} {x : PV} {v : V} (h : Rep G ρ H x v) (f : flatP x = true) : flatV v = true := by
  cases x with
  | non => rw [show v = .non from h]; rfl
  | bl b => rw [show v = .bl b from h]; rfl
  | int i => rw [show v = .int i from h]; rfl
  | str x => rw [show v = .str x from h]; rfl
  | _ => cases f
theorem eqV_pv {G : Gx} {ρ : List Addr} {H : Hp} {x y : PV} {v w : V} (h : Rep G ρ H x v) (f : flatP x = true) (k : Rep G ρ H y w) (g : flatP y = true) : eqV v w = pveq x y := by
  cases x with
  | non => rw [show v = .non from h]; cases y <;> first | (rw [show w = _ from k]; rfl; done) | cases g
  | bl b => rw [show v = .bl b from h]; cases y <;> first | (rw [show w = _ from k]; rfl; done) | cases g
  | int i => rw [show v = .int i from h]; cases y <;> first | (rw [show w = _ from k]; rfl; done) | cases g
  | str x => rw [show v = .str x from h]; cases y <;> first | (rw [show w = _ from k]; rfl; done) | cases g
  | _ => cases f
theorem inV_pv {G : Gx} {ρ : List Addr} {H : Hp} {x : PV} {v : V} (h : Rep G ρ H x v) (f : flatP x = true) : ∀ {xs : List PV} {vs : List V}, Reps G ρ H xs vs → xs.all flatP = true → inV v vs = (xs.any fun z => pveq z x) ∧ vs.all flatV = true
  | [], vs, k, _ => by rw [show vs = [] from k]; exact ⟨rfl, rfl⟩
  | y :: ys, vs, k, g => by
    obtain ⟨w, r, rfl, h1, h2⟩ := k
    have g' : flatP y = true ∧ ys.all flatP = true := by simpa using g
    obtain ⟨i1, i2⟩ := inV_pv h f h2 g'.2
    unfold inV at *
    exact ⟨by simp only [List.any_cons, i1, eqV_pv h1 g'.1 h f], by simp only [List.all_cons, i2, reps_flat h1 g'.1, Bool.and_self]⟩
theorem any_toD {x : PV} {n : Nat} (h : dOk n x = true) : ∀ {m : Nat} {xs : List PV}, dOks m xs = true → ((toDs xs).any fun z => PyData.eqv z (toD x)) = (xs.any fun z => pveq z x)
  | m, [], _ => rfl
  | m, y :: ys, g => by
    have g' : dOk m y = true ∧ dOks m ys = true := by simpa [dOks] using g
    simp only [toDs, List.any_cons, any_toD h g'.2, toD_eqv g'.1 h]
theorem one_sign {w : Str} (h : w.length = 1) : w = ⟨#[w.cps.getD 0 0]⟩ := by
  obtain ⟨⟨l⟩⟩ := w
  have h : l.length = 1 := h
  match l, h with
  | [a], _ => rfl
/-- the rules, by a truth -/
theorem in_split {G : Gx} {kt : Bool} (hk : G.kt = kt) {r : Bool → R2} {ρ : List Addr} {L : Store} {H : Hp} {x : PV} {y : Hd} {v w : V} {b : Bool} {P : Prop} (t : Rst G ρ L H) (hx : Rep G ρ H x v) (hy : HRep G ρ H y w) (hz : isIn kt L x y = some b)
    (h1 : ∀ c z, v = .str ⟨#[c]⟩ → w = .str z → b = decide (c ∈ z.cps.toList) → P)
    (h2 : ∀ p xs, w = .ref p → SqT G.K H p xs → flatV v = true → xs.all flatV = true → b = inV v xs → P)
    (h3 : ∀ d ds, Dp G.K H v d → Dp G.K H w (.list ds) → SeqAt.shaped d = true → SeqAt.shaped (.list ds) = true → b = (ds.any fun z => PyData.eqv z d) → P)
    (h4 : ∀ a o, w = .ref a → DGet H a v o → b = o.isSome → P) : P := by
  subst hk
  unfold isIn at hz
  cases hw : view L y with
  | none => rw [hw] at hz; cases hz
  | some vw =>
    rw [hw] at hz
    have hr := view_rep t hy hw
    cases vw with
    | str z =>
      cases x with
      | str u =>
        dsimp only at hz
        split at hz
        · rename_i hl
          cases hz
          exact h1 _ z (hx.trans (congrArg V.str (one_sign hl))) hr rfl
        · cases hz
      | _ => cases hz
    | tup xs =>
      dsimp only at hz
      split at hz
      · rename_i hf
        cases hz
        obtain ⟨p, vs, rfl, ha, hs⟩ := hr
        obtain ⟨i1, i2⟩ := inV_pv hx hf.1 hs hf.2
        exact h2 p vs rfl ha (reps_flat hx hf.1) i2 i1.symm
      · cases hz
    | lst xs =>
      dsimp only at hz
      split at hz
      · rename_i hf
        cases hz
        obtain ⟨p, vs, rfl, ha, hs⟩ := hr
        refine h3 (toD x) (toDs xs) (rep_dp hf.1 hx) (.lst (.inl ha) (reps_dp hf.2 hs)) (toD_shaped hf.1) (toD_shaped (x := .lst xs) ?_) (any_toD hf.1 hf.2).symm
        simpa [dOk] using hf.2
      · cases hz
    | dk kvs =>
      cases hd : dLook' G.kt (.dk kvs) x with
      | none => simp only [hd] at hz; cases hz
      | some o =>
        simp only [hd] at hz
        cases hz
        obtain ⟨a, r, rfl, hg, k1, k2⟩ := dget_of' hr hx hd
        refine h4 a r rfl hg ?_
        cases o with
        | none => rw [k2 rfl]; rfl
        | some z => obtain ⟨u, e, _⟩ := k1 z rfl; rw [e]; rfl
    | dt kvs =>
      cases hd : dLook' G.kt (.dt kvs) x with
      | none => simp only [hd] at hz; cases hz
      | some o =>
        simp only [hd] at hz
        cases hz
        obtain ⟨a, r, rfl, hg, k1, k2⟩ := dget_of' hr hx hd
        refine h4 a r rfl hg ?_
        cases o with
        | none => rw [k2 rfl]; rfl
        | some z => obtain ⟨u, e, _⟩ := k1 z rfl; rw [e]; rfl
def rInS (n : Bool) : R2 := fun x y H Q => ∃ (c : Nat) (z : Str), x = .str ⟨#[c]⟩ ∧ y = .str z ∧ Q (.bl (if n then !decide (c ∈ z.cps.toList) else decide (c ∈ z.cps.toList))) H
def rInDi (n : Bool) : R2 := fun x y H Q => ∃ a o, y = .ref a ∧ DGet H a x o ∧ Q (.bl (if n then !o.isSome else o.isSome)) H
section
variable {X : Cx}
theorem op_inDi (hu : X.A.units + 1 < cLine) : OpR X (compareOp .In) (rInDi false) := by
  intro pins s σ H x y v u Q I rx ry h
  obtain ⟨a, o, rfl, g, q⟩ := h
  obtain rfl : u = .ref a := ry
  exact d_in hu I g rx fun s' I' => ⟨.bl _, H, I', rfl, q⟩
theorem op_notInDi (hu : X.A.units + 1 < cLine) : OpR X (compareOp .NotIn) (rInDi true) := by
  intro pins s σ H x y v u Q I rx ry h
  obtain ⟨a, o, rfl, g, q⟩ := h
  obtain rfl : u = .ref a := ry
  exact d_notIn hu I g rx fun s' I' => ⟨.bl _, H, I', rfl, q⟩
theorem op_inS : OpR X (compareOp .In) (rInS false) := op_in_sign
theorem op_notInS : OpR X (compareOp .NotIn) (rInS true) := op_notIn_sign
theorem opIn_all (hu : X.A.units + 65 < cLine) : OpR X (compareOp .In) (fun x y H Q => (rInS false x y H Q ∨ rIn X.K false x y H Q) ∨ (rInD X.K x y H Q ∨ rInDi false x y H Q)) := (op_inS.or op_in_seq).or ((op_inD hu).or (op_inDi (by omega)))
theorem opNotIn_all (hu : X.A.units + 65 < cLine) : OpR X (compareOp .NotIn) (fun x y H Q => (rInS true x y H Q ∨ rIn X.K true x y H Q) ∨ (rNotInD X.K x y H Q ∨ rInDi true x y H Q)) := (op_notInS.or op_notIn_seq).or ((op_notInD hu).or (op_notInDi (by omega)))
theorem oh_in {G : Gx} {K : PySem.W.Frag} (hK : G.K = K) {kt : Bool} (hk : G.kt = kt) : OpH' G (hIn kt) (fun x y H Q => (rInS false x y H Q ∨ rIn K false x y H Q) ∨ (rInD K x y H Q ∨ rInDi false x y H Q)) := by
  subst hK
  intro ρ L H x y z v w Q t hx hy hz k
  unfold hIn at hz
  cases hb : isIn kt L x y with
  | none => rw [hb] at hz; cases hz
  | some b =>
    rw [hb] at hz
    cases hz
    have k' := k ρ H (.bl b) Ext.refl t rfl
    refine in_split (r := fun _ _ _ _ _ => True) hk t hx hy hb (fun c z e1 e2 e3 => ?_) (fun p xs e1 e2 e3 e4 e5 => ?_) (fun d ds e1 e2 e3 e4 e5 => ?_) fun a o e1 e2 e3 => ?_
    · subst e3; exact .inl (.inl ⟨c, z, e1, e2, k'⟩)
    · subst e5; exact .inl (.inr ⟨p, xs, e1, .inr e2, e3, e4, k'⟩)
    · subst e5; exact .inr (.inl ⟨d, ds, e1, e2, e3, e4, k'⟩)
    · subst e3; exact .inr (.inr ⟨a, o, e1, e2, k'⟩)
theorem oh_notIn {G : Gx} {K : PySem.W.Frag} (hK : G.K = K) {kt : Bool} (hk : G.kt = kt) : OpH' G (hNotIn kt) (fun x y H Q => (rInS true x y H Q ∨ rIn K true x y H Q) ∨ (rNotInD K x y H Q ∨ rInDi true x y H Q)) := by
  subst hK
  intro ρ L H x y z v w Q t hx hy hz k
  unfold hNotIn at hz
  cases hb : isIn kt L x y with
  | none => rw [hb] at hz; cases hz
  | some b =>
    rw [hb] at hz
    cases hz
    have k' := k ρ H (.bl (!b)) Ext.refl t rfl
    refine in_split (r := fun _ _ _ _ _ => True) hk t hx hy hb (fun c z e1 e2 e3 => ?_) (fun p xs e1 e2 e3 e4 e5 => ?_) (fun d ds e1 e2 e3 e4 e5 => ?_) fun a o e1 e2 e3 => ?_
    · subst e3; exact .inl (.inl ⟨c, z, e1, e2, k'⟩)
    · subst e5; exact .inl (.inr ⟨p, xs, e1, .inr e2, e3, e4, k'⟩)
    · subst e5; exact .inr (.inl ⟨d, ds, e1, e2, e3, e4, k'⟩)
    · subst e3; exact .inr (.inr ⟨a, o, e1, e2, k'⟩)
end
section
variable {X : Cx} {c : FC} {a b e : Expr} {f : FF Hd} {g h : EF} {pos : Pos} {kt : Bool}
theorem ev_in (hu : X.A.units + 65 < cLine) (hk : c.kt = kt) (ha : EV X c a g) (hb : HV X c b f) (hm : behindInMarks .In b = false := by with_unfolding_all rfl) : EV X c (.Compare a [.In] [b] pos) (eOpH' (hIn kt) g f) :=
  pe_imp (pe_cmpR (opIn_all hu) ha hb hm) fun _ _ _ q => opH_read' (oh_in rfl hk) q
theorem ev_notIn (hu : X.A.units + 65 < cLine) (hk : c.kt = kt) (ha : EV X c a g) (hb : HV X c b f) (hm : behindInMarks .NotIn b = false := by with_unfolding_all rfl) : EV X c (.Compare a [.NotIn] [b] pos) (eOpH' (hNotIn kt) g f) :=
  pe_imp (pe_cmpR (opNotIn_all hu) ha hb hm) fun _ _ _ q => opH_read' (oh_notIn rfl hk) q
theorem tv_in (hu : X.A.units + 65 < cLine) (hk : c.kt = kt) (ha : EV X c a g) (hb : HV X c b f) (hm : behindInMarks .In b = false := by with_unfolding_all rfl) : TV X c (.Compare a [.In] [b] pos) (bB (eOpH' (hIn kt) g f)) :=
  pt_imp (pt_cmpR (opIn_all hu) ha hb hm) fun _ _ _ q => opH_read' (oh_in rfl hk) q.test
theorem tv_notIn (hu : X.A.units + 65 < cLine) (hk : c.kt = kt) (ha : EV X c a g) (hb : HV X c b f) (hm : behindInMarks .NotIn b = false := by with_unfolding_all rfl) : TV X c (.Compare a [.NotIn] [b] pos) (bB (eOpH' (hNotIn kt) g f)) :=
  pt_imp (pt_cmpR (opNotIn_all hu) ha hb hm) fun _ _ _ q => opH_read' (oh_notIn rfl hk) q.test

/-! ### the plain comparisons -/
theorem ev_lt (hu : X.A.units < cLine) (ha : EV X c a g) (hb : EV X c b h) : EV X c (.Compare a [.Lt] [b] pos) (eOp hLt g h) := ev_cmp (op_ltAll hu) (o2_lt rfl) ha hb (nomark _)
theorem ev_le (ha : EV X c a g) (hb : EV X c b h) : EV X c (.Compare a [.LtE] [b] pos) (eOp hLe g h) := ev_cmp op_le (o2_cmp _) ha hb (nomark _)
theorem ev_gt (ha : EV X c a g) (hb : EV X c b h) : EV X c (.Compare a [.Gt] [b] pos) (eOp hGt g h) := ev_cmp op_gt (o2_cmp _) ha hb (nomark _)
theorem ev_ge (ha : EV X c a g) (hb : EV X c b h) : EV X c (.Compare a [.GtE] [b] pos) (eOp hGe g h) := ev_cmp op_ge (o2_cmp _) ha hb (nomark _)
theorem ev_eq (hu : X.A.units + 64 < cLine) (ha : EV X c a g) (hb : EV X c b h) : EV X c (.Compare a [.Eq] [b] pos) (eOp hEq g h) := ev_cmp (op_eqD hu) (o2_eq rfl) ha hb (nomark _)
theorem ev_ne (hu : X.A.units + 64 < cLine) (ha : EV X c a g) (hb : EV X c b h) : EV X c (.Compare a [.NotEq] [b] pos) (eOp hNe g h) := ev_cmp (op_neD hu) (o2_ne rfl) ha hb (nomark _)
theorem ev_is (ha : EV X c a g) (hb : EV X c b h) : EV X c (.Compare a [.Is] [b] pos) (eOp hIs g h) := ev_cmp (op_isBl.or op_isN) o2_is ha hb (nomark _)
theorem ev_isNot (ha : EV X c a g) (hb : EV X c b h) : EV X c (.Compare a [.IsNot] [b] pos) (eOp hIsNot g h) := ev_cmp (op_notBl.or op_notN) o2_isNot ha hb (nomark _)
theorem tv_lt (hu : X.A.units < cLine) (ha : EV X c a g) (hb : EV X c b h) : TV X c (.Compare a [.Lt] [b] pos) (bB (eOp hLt g h)) := tv_cmp (op_ltAll hu) (o2_lt rfl) ha hb (nomark _)
theorem tv_le (ha : EV X c a g) (hb : EV X c b h) : TV X c (.Compare a [.LtE] [b] pos) (bB (eOp hLe g h)) := tv_cmp op_le (o2_cmp _) ha hb (nomark _)
theorem tv_gt (ha : EV X c a g) (hb : EV X c b h) : TV X c (.Compare a [.Gt] [b] pos) (bB (eOp hGt g h)) := tv_cmp op_gt (o2_cmp _) ha hb (nomark _)
theorem tv_ge (ha : EV X c a g) (hb : EV X c b h) : TV X c (.Compare a [.GtE] [b] pos) (bB (eOp hGe g h)) := tv_cmp op_ge (o2_cmp _) ha hb (nomark _)
theorem tv_eq (hu : X.A.units + 64 < cLine) (ha : EV X c a g) (hb : EV X c b h) : TV X c (.Compare a [.Eq] [b] pos) (bB (eOp hEq g h)) := tv_cmp (op_eqD hu) (o2_eq rfl) ha hb (nomark _)
theorem tv_ne (hu : X.A.units + 64 < cLine) (ha : EV X c a g) (hb : EV X c b h) : TV X c (.Compare a [.NotEq] [b] pos) (bB (eOp hNe g h)) := tv_cmp (op_neD hu) (o2_ne rfl) ha hb (nomark _)
theorem tv_is (ha : EV X c a g) (hb : EV X c b h) : TV X c (.Compare a [.Is] [b] pos) (bB (eOp hIs g h)) := tv_cmp (op_isBl.or op_isN) o2_is ha hb (nomark _)
theorem tv_isNot (ha : EV X c a g) (hb : EV X c b h) : TV X c (.Compare a [.IsNot] [b] pos) (bB (eOp hIsNot g h)) := tv_cmp (op_notBl.or op_notN) o2_isNot ha hb (nomark _)
end

/-! ### calls of what is built in -/
def Cal1 (G : Gx) (h : Store → Hd → Option PV) (r : List V → Hp → VK → Prop) : Prop := ∀ ρ L H x v z Q, Rst G ρ L H → HRep G ρ H x v → h L x = some z →
  (∀ ρ' H' u, Ext ρ ρ' H H' → Rst G ρ' L H' → Rep G ρ' H' z u → Q u H') → r [v] H Q
def CalN (G : Gx) (h : Store → Hd → Option Cell) (r : List V → Hp → VK → Prop) : Prop := ∀ ρ L H x v z Q, Rst G ρ L H → HRep G ρ H x v → h L x = some z →
  (∀ ρ' H' p, Ext ρ ρ' H H' → Rst G ρ' L H' → p ∉ ρ' → H p = none → CRep G ρ' H' p z → Q (.ref p) H') → r [v] H Q
def Cal2 (G : Gx) (h : PV → PV → Option PV) (r : List V → Hp → VK → Prop) : Prop := ∀ ρ L H x y v w z Q, Rst G ρ L H → Rep G ρ H x v → Rep G ρ H y w → h x y = some z →
  (∀ ρ' H' u, Ext ρ ρ' H H' → Rst G ρ' L H' → Rep G ρ' H' z u → Q u H') → r [v, w] H Q
def eCall1 (h : Store → Hd → Option PV) (f : FF Hd) : EF := fun s L => bnd (f s L) fun x L1 => ret (h L1 x) L1
def nCall1 (h : Store → Hd → Option Cell) (f : FF Hd) : CF := fun s L => bnd (f s L) fun x L1 => ret (h L1 x) L1
section
variable {X : Cx} {c : FC} {a b e : Expr} {f : FF Hd} {g g' : EF} {pos p : Pos} {x : Str} {id T : String} {r : List V → Hp → VK → Prop}
theorem call1_read {h : Store → Hd → Option PV} (i : Cal1 (gx X c.kt) h r) {σ : St} {H : Hp} {Q : VK} (q : tOf (gx X c.kt) (RE (gx X c.kt)) c.r0 c.H0 c.W (eCall1 h f) σ H Q) :
    tCB r (tCons (tOf (gx X c.kt) (RH (gx X c.kt)) c.r0 c.H0 c.W f) tNil) σ H Q := by
  refine tOf.first (R := RH _) (k := fun s x L1 => ret (h L1 x) L1) q fun ρ L s x L1 ρ1 H1 v R1 e1 q1 o1 => ?_
  obtain ⟨z, hz, k⟩ := Ou.ret o1
  exact i ρ1 L1 H1 x v z Q R1.st q1 hz k
theorem callN_read {h : Store → Hd → Option Cell} (i : CalN (gx X c.kt) h r) {σ : St} {H : Hp} {Q : VK} (q : tOf (gx X c.kt) (RN (gx X c.kt)) c.r0 c.H0 c.W (nCall1 h f) σ H Q) :
    tCB r (tCons (tOf (gx X c.kt) (RH (gx X c.kt)) c.r0 c.H0 c.W f) tNil) σ H Q := by
  refine tOf.first (R := RH _) (R' := RN _) (k := fun s x L1 => ret (h L1 x) L1) q fun ρ L s x L1 ρ1 H1 v R1 e1 q1 o1 => ?_
  obtain ⟨z, hz, k⟩ := Ou.ret o1
  exact i ρ1 L1 H1 x v z Q R1.st q1 hz fun ρ' H' p e t hp hn hc => k ρ' H' _ e t ⟨p, rfl, hp, hn, hc⟩
theorem ev_cB {h : Store → Hd → Option PV} (hc : CallR X (.builtin id) r) (i : Cal1 (gx X c.kt) h r) (hg : Gl X x) (hm : X.mg x = none) (hv : bootBuiltins x = some (.builtin id)) (ha : HV X c a f) (hn : x ≠ "__name__" := by decide) (hdb : (x == ("__debug__" : Str)) = false := by decide)
    (he : starEach (a :: []) X.env = (false, eval a X.env) :: starEach [] X.env := by rfl) : EV X c (.Call (.Name x p) [a] [] pos) (eCall1 h f) :=
  pe_imp (pe_callB hc hg hm hv (pa_cons ha pa_nil he) hn hdb he rfl) fun _ _ _ q => call1_read i q
theorem ev_cT {h : Store → Hd → Option PV} (hc : CallR X (.type T) r) (i : Cal1 (gx X c.kt) h r) (hg : Gl X x) (hm : X.mg x = none) (hv : bootBuiltins x = some (.type T)) (ha : HV X c a f) (hn : x ≠ "__name__" := by decide) (hdb : (x == ("__debug__" : Str)) = false := by decide)
    (he : starEach (a :: []) X.env = (false, eval a X.env) :: starEach [] X.env := by rfl) : EV X c (.Call (.Name x p) [a] [] pos) (eCall1 h f) :=
  pe_imp (pe_callTy hc hg hm hv (pa_cons ha pa_nil he) hn hdb he rfl) fun _ _ _ q => call1_read i q
theorem nv_cB {h : Store → Hd → Option Cell} (hc : CallR X (.builtin id) r) (i : CalN (gx X c.kt) h r) (hg : Gl X x) (hm : X.mg x = none) (hv : bootBuiltins x = some (.builtin id)) (ha : HV X c a f) (hn : x ≠ "__name__" := by decide) (hdb : (x == ("__debug__" : Str)) = false := by decide)
    (he : starEach (a :: []) X.env = (false, eval a X.env) :: starEach [] X.env := by rfl) : NV X c (.Call (.Name x p) [a] [] pos) (nCall1 h f) :=
  pe_imp (pe_callB hc hg hm hv (pa_cons ha pa_nil he) hn hdb he rfl) fun _ _ _ q => callN_read i q
theorem nv_cT {h : Store → Hd → Option Cell} (hc : CallR X (.type T) r) (i : CalN (gx X c.kt) h r) (hg : Gl X x) (hm : X.mg x = none) (hv : bootBuiltins x = some (.type T)) (ha : HV X c a f) (hn : x ≠ "__name__" := by decide) (hdb : (x == ("__debug__" : Str)) = false := by decide)
    (he : starEach (a :: []) X.env = (false, eval a X.env) :: starEach [] X.env := by rfl) : NV X c (.Call (.Name x p) [a] [] pos) (nCall1 h f) :=
  pe_imp (pe_callTy hc hg hm hv (pa_cons ha pa_nil he) hn hdb he rfl) fun _ _ _ q => callN_read i q
theorem ev_cB2 {h : PV → PV → Option PV} (hc : CallR X (.builtin id) r) (i : Cal2 (gx X c.kt) h r) (hg : Gl X x) (hm : X.mg x = none) (hv : bootBuiltins x = some (.builtin id)) (ha : EV X c a g) (hb : EV X c b g') (hn : x ≠ "__name__" := by decide) (hdb : (x == ("__debug__" : Str)) = false := by decide)
    (he : starEach (a :: [b]) X.env = (false, eval a X.env) :: starEach [b] X.env := by rfl) (he' : starEach [b] X.env = (false, eval b X.env) :: starEach [] X.env := by rfl) : EV X c (.Call (.Name x p) [a, b] [] pos) (eOp h g g') := by
  refine pe_imp (pe_callB hc hg hm hv (pa_cons ha (pa_cons hb pa_nil he') he) hn hdb he (by rw [he']; rfl)) fun σ H Q q => ?_
  refine tOf.first (R := RE _) (k := fun s x L1 => bnd (g' s L1) fun y L2 => ret (h x y) L2) q fun ρ L s x L1 ρ1 H1 v R1 e1 q1 o1 => ?_
  refine ⟨ρ1, L1, s, R1, Ou.bind o1 fun y L2 ρ2 H2 w _ e2 t2 q2 o2 => ?_⟩
  obtain ⟨z, hz, k⟩ := Ou.ret o2
  exact i ρ2 L2 H2 x y v w z Q t2 (Rep.mono e2.toStb q1) q2 hz k

/-! #### which -/
def hLen (L : Store) (x : Hd) : Option PV := match view L x with
  | some (.lst xs) => some (.int xs.length)
  | some (.tup xs) => some (.int xs.length)
  | some (.str z) => if z.length ≤ sizeLine then some (.int z.length) else none
  | _ => none
theorem c1_len {G : Gx} {K : PySem.W.Frag} (hK : G.K = K) : Cal1 G hLen (fun xs H Q => ∃ x n, xs = [x] ∧ LenV K x H n ∧ Q (.int n) H) := by
  subst hK
  intro ρ L H x v z Q t hx hz k
  unfold hLen at hz
  cases hw : view L x with
  | none => rw [hw] at hz; cases hz
  | some vw =>
    rw [hw] at hz
    have hr := view_rep t hx hw
    cases vw with
    | lst xs =>
      cases hz
      obtain ⟨a, vs, rfl, ha, hs⟩ := hr
      exact ⟨_, xs.length, rfl, .inl ⟨vs, .inl ha, hs.length⟩, k ρ H _ Ext.refl t rfl⟩
    | tup xs =>
      cases hz
      obtain ⟨a, vs, rfl, ha, hs⟩ := hr
      exact ⟨_, xs.length, rfl, .inr ⟨vs, ha, hs.length⟩, k ρ H _ Ext.refl t rfl⟩
    | str s =>
      dsimp only at hz
      split at hz
      · rename_i hl
        cases hz
        obtain rfl : v = .str s := hr
        exact ⟨_, s.length, rfl, ⟨hl, rfl⟩, k ρ H _ Ext.refl t rfl⟩
      · cases hz
    | _ => cases hz
theorem ev_len (hg : Gl X "len") (hm : X.mg "len" = none) (ha : HV X c a f) (he : starEach (a :: []) X.env = (false, eval a X.env) :: starEach [] X.env := by rfl) : EV X c (.Call (.Name "len" p) [a] [] pos) (eCall1 hLen f) :=
  ev_cB call_len (c1_len rfl) hg hm PySem.boot_len ha (by decide) (by decide) he
def hAbs (_ : Store) : Hd → Option PV
  | .v (.int i) => some (.int (if i < 0 then -i else i))
  | _ => none
theorem c1_abs {G : Gx} : Cal1 G hAbs (fun xs H Q => ∃ i, xs = [.int i] ∧ Q (.int (if i < 0 then -i else i)) H) := by
  intro ρ L H x v z Q t hx hz k
  unfold hAbs at hz
  split at hz
  · rename_i i
    cases hz
    obtain rfl : v = .int i := hx
    exact ⟨i, rfl, k ρ H _ Ext.refl t rfl⟩
  · cases hz
theorem ev_abs (hg : Gl X "abs") (hm : X.mg "abs" = none) (ha : HV X c a f) (he : starEach (a :: []) X.env = (false, eval a X.env) :: starEach [] X.env := by rfl) : EV X c (.Call (.Name "abs" p) [a] [] pos) (eCall1 hAbs f) :=
  ev_cB call_abs c1_abs hg hm (by decide +kernel) ha (by decide) (by decide) he
def hMax2 : PV → PV → Option PV
  | .int i, .int j => some (.int (if j > i then j else i))
  | _, _ => none
def hMin2 : PV → PV → Option PV
  | .int i, .int j => some (.int (if j < i then j else i))
  | _, _ => none
theorem c2_max {G : Gx} : Cal2 G hMax2 (fun xs H Q => ∃ i j, xs = [.int i, .int j] ∧ Q (.int (if j > i then j else i)) H) := by
  intro ρ L H x y v w z Q t hx hy hz k
  unfold hMax2 at hz
  split at hz
  · rename_i i j
    cases hz
    obtain rfl : v = .int i := hx
    obtain rfl : w = .int j := hy
    exact ⟨i, j, rfl, k ρ H _ Ext.refl t rfl⟩
  · cases hz
theorem c2_min {G : Gx} : Cal2 G hMin2 (fun xs H Q => ∃ i j, xs = [.int i, .int j] ∧ Q (.int (if j < i then j else i)) H) := by
  intro ρ L H x y v w z Q t hx hy hz k
  unfold hMin2 at hz
  split at hz
  · rename_i i j
    cases hz
    obtain rfl : v = .int i := hx
    obtain rfl : w = .int j := hy
    exact ⟨i, j, rfl, k ρ H _ Ext.refl t rfl⟩
  · cases hz
theorem ev_max2 (hc : X.calm = true) (hg : Gl X "max") (hm : X.mg "max" = none) (ha : EV X c a g) (hb : EV X c b g') (he : starEach (a :: [b]) X.env = (false, eval a X.env) :: starEach [b] X.env := by rfl) (he' : starEach [b] X.env = (false, eval b X.env) :: starEach [] X.env := by rfl) :
    EV X c (.Call (.Name "max" p) [a, b] [] pos) (eOp hMax2 g g') := ev_cB2 (call_max2 hc) c2_max hg hm (by decide +kernel) ha hb (by decide) (by decide) he he'
theorem ev_min2 (hc : X.calm = true) (hg : Gl X "min") (hm : X.mg "min" = none) (ha : EV X c a g) (hb : EV X c b g') (he : starEach (a :: [b]) X.env = (false, eval a X.env) :: starEach [b] X.env := by rfl) (he' : starEach [b] X.env = (false, eval b X.env) :: starEach [] X.env := by rfl) :
    EV X c (.Call (.Name "min" p) [a, b] [] pos) (eOp hMin2 g g') := ev_cB2 (call_min2 hc) c2_min hg hm (by decide +kernel) ha hb (by decide) (by decide) he he'

def blsOf : List PV → Option (List Bool)
  | [] => some []
  | .bl i :: r => (blsOf r).map (i :: ·)
  | _ :: _ => none
theorem blsOf_rep {G : Gx} {ρ : List Addr} {H : Hp} : ∀ {xs : List PV} {bs : List Bool} {vs : List V}, blsOf xs = some bs → Reps G ρ H xs vs → vs = bs.map V.bl
  | [], bs, vs, h, k => by cases h; exact k
  | x :: r, bs, vs, h, k => by
    obtain ⟨v, w, rfl, h1, h2⟩ := k
    cases x with
    | bl i =>
      unfold blsOf at h
      cases e : blsOf r with
      | none => rw [e] at h; cases h
      | some ms =>
        rw [e] at h; cases h
        rw [show v = V.bl i from h1, blsOf_rep e h2]; rfl
    | _ => cases h
theorem intsOf_rep {G : Gx} {ρ : List Addr} {H : Hp} {xs : List PV} {ns : List Int} {vs : List V} (h : intsOf xs = some ns) (k : Reps G ρ H xs vs) : vs = ns.map V.int := by
  have := intsOf_some h
  subst this
  exact reps_ints_inv k
def hAll (L : Store) (x : Hd) : Option PV := match view L x with
  | some (.lst xs) => (blsOf xs).map fun bs => .bl (bs.all _root_.id)
  | _ => none
def hAny (L : Store) (x : Hd) : Option PV := match view L x with
  | some (.lst xs) => (blsOf xs).map fun bs => .bl (bs.any _root_.id)
  | _ => none
def hSum (L : Store) (x : Hd) : Option PV := match view L x with
  | some (.lst xs) => (intsOf xs).map fun ns => .int ns.sum
  | _ => none
theorem c1_all {G : Gx} {K : PySem.W.Frag} (hK : G.K = K) : Cal1 G hAll (rAll K) := by
  subst hK
  intro ρ L H x v z Q t hx hz k
  unfold hAll at hz
  cases hw : view L x with
  | none => rw [hw] at hz; cases hz
  | some vw =>
    rw [hw] at hz
    have hr := view_rep t hx hw
    cases vw with
    | lst xs =>
      obtain ⟨a, vs, rfl, ha, hs⟩ := hr
      cases hb : blsOf xs with
      | none => simp [hb] at hz
      | some bs =>
        simp only [hb, Option.map_some, Option.some.injEq] at hz
        subst hz
        have := blsOf_rep hb hs
        subst this
        exact ⟨a, bs, rfl, .inl ha, k ρ H _ Ext.refl t rfl⟩
    | _ => cases hz
theorem c1_any {G : Gx} {K : PySem.W.Frag} (hK : G.K = K) : Cal1 G hAny (rAny K) := by
  subst hK
  intro ρ L H x v z Q t hx hz k
  unfold hAny at hz
  cases hw : view L x with
  | none => rw [hw] at hz; cases hz
  | some vw =>
    rw [hw] at hz
    have hr := view_rep t hx hw
    cases vw with
    | lst xs =>
      obtain ⟨a, vs, rfl, ha, hs⟩ := hr
      cases hb : blsOf xs with
      | none => simp [hb] at hz
      | some bs =>
        simp only [hb, Option.map_some, Option.some.injEq] at hz
        subst hz
        have := blsOf_rep hb hs
        subst this
        exact ⟨a, bs, rfl, .inl ha, k ρ H _ Ext.refl t rfl⟩
    | _ => cases hz
theorem c1_sum {G : Gx} {K : PySem.W.Frag} (hK : G.K = K) : Cal1 G hSum (rSum K) := by
  subst hK
  intro ρ L H x v z Q t hx hz k
  unfold hSum at hz
  cases hw : view L x with
  | none => rw [hw] at hz; cases hz
  | some vw =>
    rw [hw] at hz
    have hr := view_rep t hx hw
    cases vw with
    | lst xs =>
      obtain ⟨a, vs, rfl, ha, hs⟩ := hr
      cases hb : intsOf xs with
      | none => simp [hb] at hz
      | some bs =>
        simp only [hb, Option.map_some, Option.some.injEq] at hz
        subst hz
        have := intsOf_rep hb hs
        subst this
        exact ⟨a, bs, rfl, .inl ha, k ρ H _ Ext.refl t rfl⟩
    | _ => cases hz
theorem ev_all (hc : X.calm = true) (hg : Gl X "all") (hm : X.mg "all" = none) (ha : HV X c a f) (he : starEach (a :: []) X.env = (false, eval a X.env) :: starEach [] X.env := by rfl) : EV X c (.Call (.Name "all" p) [a] [] pos) (eCall1 hAll f) :=
  ev_cB (cr_all hc) (c1_all rfl) hg hm (by decide +kernel) ha (by decide) (by decide) he
theorem ev_any (hc : X.calm = true) (hg : Gl X "any") (hm : X.mg "any" = none) (ha : HV X c a f) (he : starEach (a :: []) X.env = (false, eval a X.env) :: starEach [] X.env := by rfl) : EV X c (.Call (.Name "any" p) [a] [] pos) (eCall1 hAny f) :=
  ev_cB (cr_any hc) (c1_any rfl) hg hm (by decide +kernel) ha (by decide) (by decide) he
theorem ev_sum (hc : X.calm = true) (hg : Gl X "sum") (hm : X.mg "sum" = none) (ha : HV X c a f) (he : starEach (a :: []) X.env = (false, eval a X.env) :: starEach [] X.env := by rfl) : EV X c (.Call (.Name "sum" p) [a] [] pos) (eCall1 hSum f) :=
  ev_cB (cr_sum hc) (c1_sum rfl) hg hm (by decide +kernel) ha (by decide) (by decide) he

/-! #### list(x), tuple(x) -/
def hTuple (L : Store) (x : Hd) : Option PV := match x with
  | .v (.tup xs) => some (.tup xs)
  | x => match view L x with
    | some (.lst xs) => some (.tup xs)
    | _ => none
theorem c1_tuple {G : Gx} {K : PySem.W.Frag} (hK : G.K = K) : Cal1 G hTuple (fun xs H Q => ∃ p ys, xs = [.ref p] ∧ ((SqL K H p ys ∧ ∀ l u, H l = none → FT.TObj G.kt ys u → Q (.ref l) (upd H l u)) ∨ (SqT K H p ys ∧ Q (.ref p) H))) := by
  subst hK
  intro ρ L H x v z Q t hx hz k
  unfold hTuple at hz
  split at hz
  · cases hz
    obtain ⟨a, vs, rfl, ha, hs⟩ := id hx
    exact ⟨a, vs, rfl, .inr ⟨KTup.sq ha, k ρ H _ Ext.refl t hx⟩⟩
  · cases hw : view L x with
    | none => rw [hw] at hz; cases hz
    | some vw =>
      rw [hw] at hz
      have hr := view_rep t hx hw
      cases vw with
      | lst xs =>
        cases hz
        obtain ⟨a, vs, rfl, ha, hs⟩ := hr
        exact ⟨a, vs, rfl, .inl ⟨.inl ha, fun l u hl hu => k ρ _ _ (Ext.new hl) (t.new hl) (Rep.tupNew t hs hl hu)⟩⟩
      | _ => cases hz
theorem ev_tuple (hg : Gl X "tuple") (hm : X.mg "tuple" = none) (ha : HV X c a f) (he : starEach (a :: []) X.env = (false, eval a X.env) :: starEach [] X.env := by rfl) : EV X c (.Call (.Name "tuple" p) [a] [] pos) (eCall1 hTuple f) :=
  ev_cT (FT.call_tupleM (m := c.kt)) (c1_tuple rfl) hg hm (by decide +kernel) ha (by decide) (by decide) he
def nListV (L : Store) (x : Hd) : Option Cell := match view L x with
  | some (.lst xs) => some (.lst xs)
  | some (.tup xs) => some (.lst xs)
  | some (.dk kvs) => some (.lst (kvs.map fun kv => keyP kv.1))
  | _ => none
def nList (L : Store) : Hd → Option Cell
  | .v (.scr ns) => some (.lst (ns.map PV.int))
  | x => nListV L x
theorem Cell.new {G : Gx} {ρ : List Addr} {H : Hp} {L : Store} {p : Addr} {xs : List PV} {vs : List V} (t : Rst G ρ L H) (h : Reps G ρ H xs vs) (hp : H p = none) :
    Ext ρ ρ H (upd H p (.lst vs)) ∧ Rst G ρ L (upd H p (.lst vs)) ∧ p ∉ ρ ∧ CRep G ρ (upd H p (.lst vs)) p (.lst xs) :=
  ⟨Ext.new hp, t.new hp, t.fresh hp, vs, upd_same, h.mono (Ext.new hp).toStb⟩
theorem reps_keys {G : Gx} {ρ : List Addr} {H : Hp} : ∀ ks : List Key, Reps G ρ H (ks.map keyP) (ks.map kV)
  | [] => rfl
  | .inl i :: ks => ⟨_, _, rfl, rfl, reps_keys ks⟩
  | .inr i :: ks => ⟨_, _, rfl, rfl, reps_keys ks⟩
theorem cn_list {G : Gx} {K : PySem.W.Frag} (hK : G.K = K) : CalN G nList (fun xs H Q => (∃ p ys, xs = [.ref p] ∧ (SqL K H p ys ∨ SqT K H p ys) ∧ ∀ l, H l = none → Q (.ref l) (upd H l (.lst ys))) ∨ ∃ (a : Addr) (kvs : List (Key × V)), xs = [.ref a] ∧ Rd H a (.dK kvs) ∧ ∀ p, H p = none → Q (.ref p) (upd H p (.lst (kvs.map fun kv => kV kv.1)))) := by
  subst hK
  intro ρ L H x v z Q t hx hz k
  unfold nList at hz
  split at hz
  · rename_i ns
    cases hz
    obtain ⟨a, rfl, ha⟩ := hx
    have hq : SqL G.K H a (ns.map V.int) := ha.elim (fun ⟨_, o, h⟩ => .inl (.inr ⟨o, h⟩)) fun h => .inr h
    refine .inl ⟨a, _, rfl, .inl hq, fun l hl => ?_⟩
    obtain ⟨h1, h2, h3, h4⟩ := Cell.new t (reps_ints (G := G) (ρ := ρ) (H := H) ns) hl
    exact k ρ _ l h1 h2 h3 hl h4
  unfold nListV at hz
  cases hw : view L x with
  | none => rw [hw] at hz; cases hz
  | some vw =>
    rw [hw] at hz
    have hr := view_rep t hx hw
    cases vw with
    | lst xs =>
      cases hz
      obtain ⟨a, vs, rfl, ha, hs⟩ := hr
      refine .inl ⟨a, vs, rfl, .inl (.inl ha), fun l hl => ?_⟩
      obtain ⟨h1, h2, h3, h4⟩ := Cell.new t hs hl
      exact k ρ _ l h1 h2 h3 hl h4
    | tup xs =>
      cases hz
      obtain ⟨a, vs, rfl, ha, hs⟩ := hr
      refine .inl ⟨a, vs, rfl, .inr ha, fun l hl => ?_⟩
      obtain ⟨h1, h2, h3, h4⟩ := Cell.new t hs hl
      exact k ρ _ l h1 h2 h3 hl h4
    | dk kvs =>
      cases hz
      obtain ⟨a, l, rfl, ha, hs⟩ := hr
      refine .inr ⟨a, l, rfl, ha, fun p hp => ?_⟩
      have e1 : (kvs.map fun kv => keyP kv.1) = (kvs.map (·.1)).map keyP := by rw [List.map_map]; rfl
      have e2 : (l.map fun kv => kV kv.1) = (l.map (·.1)).map kV := by rw [List.map_map]; rfl
      rw [e1] at k
      rw [e2, hs.1]
      obtain ⟨h1, h2, h3, h4⟩ := Cell.new t (reps_keys (G := G) (ρ := ρ) (H := H) (kvs.map (·.1))) hp
      exact k ρ _ p h1 h2 h3 hp h4
    | _ => cases hz
theorem nv_list (hc : X.calm = true) (hg : Gl X "list") (hm : X.mg "list" = none) (ha : HV X c a f) (he : starEach (a :: []) X.env = (false, eval a X.env) :: starEach [] X.env := by rfl) : NV X c (.Call (.Name "list" p) [a] [] pos) (nCall1 nList f) :=
  nv_cT (call_list_of.or (call_listD hc)) (cn_list rfl) hg hm (by decide +kernel) ha (by decide) (by decide) he
end
end Fx

set_option Elab.async false
set_option linter.all false
set_option maxRecDepth 100000
set_option maxHeartbeats 1000000
/-! Fx part 7: isinstance, sorted, dict.get, new containers. -/
namespace Fx
open PySem L2

/-! ### isinstance -/
inductive Ty5 where
  | int | bool | str | tuple | list
def Ty5.nm : Ty5 → String
  | .int => "int" | .bool => "bool" | .str => "str" | .tuple => "tuple" | .list => "list"
def isP : Ty5 → PV → Bool
  | .int, .int _ => true
  | .int, .bl _ => true
  | .bool, .bl _ => true
  | .str, .str _ => true
  | .tuple, .tup _ => true
  | .list, .lst _ => true
  | _, _ => false
def okP : PV → Bool
  | .dt _ _ => false
  | .loc _ => false
  | .scr _ => false
  | _ => true
def isi (T : Ty5) : Hd → Option Bool
  | .v x => if okP x = true then some (isP T x) else none
  | .o (.lst _) => some (match T with | .list => true | _ => false)
  | _ => none
def tyN : PV → String
  | .non => "NoneType" | .bl _ => "bool" | .int _ => "int" | .str _ => "str" | .tup _ => "tuple" | .lst _ => "list" | _ => "dict"
theorem kit_isP (T : Ty5) (x : PV) (h : okP x = true) : kitB (tyN x) T.nm = some (isP T x) := by
  cases T <;> cases x <;> first | (cases h; done) | (simp only [tyN, Ty5.nm, isP]; decide +kernel)
theorem tyx_of {G : Gx} {ρ : List Addr} {H : Hp} {x : PV} {v : V} (h : Rep G ρ H x v) (o : okP x = true) : TyX G.K H v (.type (tyN x)) := by
  cases x with
  | non => rw [show v = .non from h]; exact .base .non
  | bl b => rw [show v = .bl b from h]; exact .base (.bl b)
  | int i => rw [show v = .int i from h]; exact .base (.int i)
  | str x => rw [show v = .str x from h]; exact .base (.str x)
  | tup xs =>
    obtain ⟨a, vs, rfl, ha, _⟩ := h
    rcases ha with ⟨_, ha⟩ | ⟨_, ⟨_, o, _, ha⟩ | ⟨_, o, its, n, e1, e2, _⟩⟩
    · exact .base (.tup ha)
    · exact .fTuple ha
    · exact .kTuple e1 e2
  | lst xs => obtain ⟨a, o, vs, rfl, _, ha, _⟩ := h; exact .base (.frz ha)
  | dk ks xs => obtain ⟨a, o, l, rfl, _, ha, _⟩ := h; exact .fDict ha
  | _ => cases o
theorem isi_of {G : Gx} {ρ : List Addr} {H : Hp} {T : Ty5} {x : Hd} {v : V} {b : Bool} (h : HRep G ρ H x v) (e : isi T x = some b) : ∃ a, TyX G.K H v (.type a) ∧ ∀ T b, isi T x = some b → PySem.W.kitOne G.K (.type a) (.type T.nm) = some b := by
  cases x with
  | v x =>
    have e : (if okP x = true then some (isP T x) else none) = some b := e
    by_cases ho : okP x = true
    · refine ⟨_, tyx_of h ho, fun U d q => ?_⟩
      have q : (if okP x = true then some (isP U x) else none) = some d := q
      rw [if_pos ho] at q
      cases q
      exact kit_ty (kit_isP U x ho)
    · rw [if_neg ho] at e; cases e
  | o c =>
    cases c with
    | lst xs =>
      obtain ⟨a, rfl, _, vs, ha, _⟩ := h
      refine ⟨"list", .base (.lst ha), fun U d q => kit_ty ?_⟩
      cases q
      cases U <;> decide +kernel
    | _ => cases e
def eIsi (T : Ty5) (f : FF Hd) : EF := fun s L => bnd (f s L) fun x L1 => ret ((isi T x).map PV.bl) L1
def eIsi2 (T U : Ty5) (f : FF Hd) : EF := fun s L => bnd (f s L) fun x L1 => ret ((isi T x).bind fun b => (isi U x).map fun d => PV.bl (b || d)) L1
section
variable {X : Cx} {c : FC} {a : Expr} {f : FF Hd} {pos p p2 p3 p4 : Pos} {x y : Str}
theorem pe_ty {T : Ty5} (hg : Gl X (Str.ofString T.nm)) (hm : X.mg (Str.ofString T.nm) = none) : PE X (.Name (Str.ofString T.nm) p) (tC (.ty T.nm)) := by
  cases T with
  | int => exact pe_bltn hg hm (show bootBuiltins "int" = some (.type "int") by decide +kernel) rfl
  | bool => exact pe_bltn hg hm (show bootBuiltins "bool" = some (.type "bool") by decide +kernel) rfl
  | str => exact pe_bltn hg hm (show bootBuiltins "str" = some (.type "str") by decide +kernel) rfl
  | tuple => exact pe_bltn hg hm (show bootBuiltins "tuple" = some (.type "tuple") by decide +kernel) rfl
  | list => exact pe_bltn hg hm (show bootBuiltins "list" = some (.type "list") by decide +kernel) rfl
theorem ev_isi {T : Ty5} (hi : Gl X "isinstance") (hmi : X.mg "isinstance" = none) (hg : Gl X (Str.ofString T.nm)) (hm : X.mg (Str.ofString T.nm) = none) (ha : HV X c a f)
    (he : starEach (a :: [Expr.Name (Str.ofString T.nm) p2]) X.env = (false, eval a X.env) :: starEach [Expr.Name (Str.ofString T.nm) p2] X.env := by rfl) : EV X c (.Call (.Name "isinstance" p) [a, .Name (Str.ofString T.nm) p2] [] pos) (eIsi T f) := by
  refine pe_imp (pe_callB call_isi hi hmi (by decide +kernel) (pa_cons ha (pa_cons (pe_ty hg hm) pa_nil) he) (by decide) (by decide) he rfl) fun σ H Q q => ?_
  refine tOf.first (R := RH _) (R' := RE _) (k := fun s x L1 => ret ((isi T x).map PV.bl) L1) q fun ρ L s x L1 ρ1 H1 v r e1 q1 o => ?_
  obtain ⟨z, hz, k⟩ := Ou.ret o
  cases hb : isi T x with
  | none => rw [hb] at hz; cases hz
  | some b =>
    rw [hb] at hz
    cases hz
    obtain ⟨n, h1, h2⟩ := isi_of (G := gx X c.kt) q1 hb
    exact ⟨v, .ty T.nm, .type n, .type T.nm, b, rfl, .ty _, h1, h2 _ _ hb, k ρ1 H1 _ Ext.refl r.st rfl⟩
theorem ev_isi2 {T U : Ty5} {k0 : Nat} (hi : Gl X "isinstance") (hmi : X.mg "isinstance" = none) (hg : Gl X (Str.ofString T.nm)) (hm : X.mg (Str.ofString T.nm) = none) (hg2 : Gl X (Str.ofString U.nm)) (hm2 : X.mg (Str.ofString U.nm) = none) (ha : HV X c a f)
    (he : starEach (a :: [Expr.Tuple [.Name (Str.ofString T.nm) p2, .Name (Str.ofString U.nm) p3] k0 p4]) X.env = (false, eval a X.env) :: starEach [Expr.Tuple [.Name (Str.ofString T.nm) p2, .Name (Str.ofString U.nm) p3] k0 p4] X.env := by rfl) :
    EV X c (.Call (.Name "isinstance" p) [a, .Tuple [.Name (Str.ofString T.nm) p2, .Name (Str.ofString U.nm) p3] k0 p4] [] pos) (eIsi2 T U f) := by
  refine pe_imp (pe_callB call_isiT hi hmi (by decide +kernel) (pa_cons ha (pa_cons (pe_tup (pa_cons (pe_ty hg hm) (pa_cons (pe_ty hg2 hm2) pa_nil))) pa_nil) he) (by decide) (by decide) he rfl) fun σ H Q q => ?_
  refine tOf.first (R := RH _) (R' := RE _) (k := fun s x L1 => ret ((isi T x).bind fun b => (isi U x).map fun d => PV.bl (b || d)) L1) q fun ρ L s x L1 ρ1 H1 v r e1 q1 o => ?_
  obtain ⟨z, hz, k⟩ := Ou.ret o
  cases hb : isi T x with
  | none => rw [hb] at hz; cases hz
  | some b =>
    rw [hb] at hz
    cases hd : isi U x with
    | none => rw [hd] at hz; cases hz
    | some d =>
      rw [hd] at hz
      cases hz
      refine ⟨by show 2 ≤ sizeLine; decide, fun t ht => ?_⟩
      have q2 := HRep.ext (Ext.new (ρ := ρ1) (u := .tup [.ty T.nm, .ty U.nm]) ht) q1
      obtain ⟨n, h1, h2⟩ := isi_of (G := gx X c.kt) q2 hb
      refine ⟨v, t, [.ty T.nm, .ty U.nm], .type n, [.type T.nm, .type U.nm], b || d, rfl, upd_same, .cons (.ty _) (.cons (.ty _) .nil), h1, ?_, k ρ1 _ _ (Ext.new ht) (r.st.new ht) rfl⟩
      exact kitAny_cons (h2 _ _ hb) (fun e => by subst e; exact kitAny_cons (h2 _ _ hd) (fun e => by subst e; exact kitAny_nil) fun e => by subst e; rfl) fun e => by subst e; rfl
end
end Fx

set_option Elab.async false
set_option linter.all false
set_option maxRecDepth 100000
set_option maxHeartbeats 1000000
/-! Fx part 8: what is walked; targets; list comprehensions. -/
namespace Fx
open PySem L2

/-! ### what a walk gives -/
/-- a value, or (raw) a new plain tuple of values, which is unpacked at once -/
def RepX (G : Gx) (raw : Bool) (ρ : List Addr) (H : Hp) (x : PV) (v : V) : Prop := Rep G ρ H x v ∨ (raw = true ∧ ∃ xs a vs, x = .tup xs ∧ v = .ref a ∧ H a = some (.tup vs) ∧ Reps G ρ H xs vs)
def Yl (G : Gx) (raw : Bool) (ρ : List Addr) (H : Hp) (J : It) (xs : List PV) : Prop := ∀ i ρ1 H1, Stb ρ ρ1 H H1 →
  (∀ h : i < xs.length, J.go i H1 ∧ ∀ x H2, J.yld i H1 x H2 → (∀ a o, H1 a = some o → H2 a = some o) ∧ RepX G raw ρ1 H2 xs[i] x) ∧ (xs.length ≤ i → J.stop i H1)
def RI (G : Gx) (raw : Bool) : RT (List PV) It := fun _ ρ' H' xs J => Yl G raw ρ' H' J xs
instance {G : Gx} {raw : Bool} : RM (RI G raw) := ⟨fun _ h => h⟩
def IV (X : Cx) (c : FC) (raw : Bool) (tg iter : Expr) (f : AF) : Prop := PI X tg iter (tOf (gx X c.kt) (RI (gx X c.kt) raw) c.r0 c.H0 c.W f)

section
variable {X : Cx} {c : FC} {tg e e2 : Expr} {g g2 : EF} {pos p tpos apos cpos : Pos}
/-- a list, a tuple, a text -/
def iSeq (K : PySem.W.Frag) (tl : TE) : TI := fun σ H R => tl σ H fun x H1 => (∃ a, x = .ref a ∧ (∃ xs, SqL K H1 a xs) ∧ R (Itl K a) H1) ∨ (∃ a, x = .ref a ∧ (∃ xs, SqT K H1 a xs) ∧ R (Itt K a) H1) ∨ ∃ z, x = .str z ∧ R (Its z) H1
theorem pi_seq {l : Expr} {tl : TE} (hl : PE X l tl) : PI X tg l (iSeq X.K tl) := by
  refine ⟨fun pins s σ H R I h => ?_⟩
  refine thn (hl.run pins s σ H _ I h) fun v s1 ⟨x, H1, I1, r1, q1⟩ => ?_
  rcases q1 with ⟨a, e, ⟨xs, hq⟩, q⟩ | ⟨a, e, ⟨xs, hq⟩, q⟩ | ⟨z, e, q⟩
  · subst e
    cases r1
    obtain ⟨its, rv, p, hz⟩ := I1.list hq
    refine wpAny_pyIter_list p.isList ?_
    refine ⟨s1.heap.objs.size, [s1.heap.objs.size], _, _, H1, rfl, I1.kept (t' := s1.toks) fun b o e => Heap.get?_push_of_some _ e, turn_list a _, ⟨_, Heap.get?_push_size _ rfl, rfl, rfl⟩, fun b hb => ?_, q⟩
    have e : b = s1.heap.objs.size := by simpa using hb
    subst e
    exact I1.fpOk (Nat.le_refl _) (I1.hok.fresh (Nat.le_refl _))
  · subst e
    cases r1
    obtain ⟨its, rv, p, hz⟩ := I1.tuple hq
    refine wpAny_pyIter_tuple (show s1.heap.IsTuple a its.toArray from p) ?_
    refine ⟨s1.heap.objs.size, [s1.heap.objs.size], _, _, H1, rfl, I1.kept (t' := s1.toks) fun b o e => Heap.get?_push_of_some _ e, turn_tuple a _, ⟨_, Heap.get?_push_size _ rfl, rfl, rfl⟩, fun b hb => ?_, q⟩
    have e : b = s1.heap.objs.size := by simpa using hb
    subst e
    exact I1.fpOk (Nat.le_refl _) (I1.hok.fresh (Nat.le_refl _))
  · subst e
    obtain ⟨t, rfl⟩ := r1
    cases ha : z.cps.all (· < 128)
    · exact wpAny_pyIter_wide ha (pi_one (tk := s1.toks) I1 _ (turn_str _ z t "str_iterator" (.inr rfl)) ⟨_, Heap.get?_push_size _ rfl, rfl, rfl⟩ q)
    · exact wpAny_pyIter_ascii ha (pi_one (tk := s1.toks) I1 _ (turn_str _ z t "str_ascii_iterator" (.inl rfl)) ⟨_, Heap.get?_push_size _ rfl, rfl, rfl⟩ q)
def itemsOf : PV → Option (List PV)
  | .lst xs => some xs
  | .tup xs => some xs
  | .str z => some (z.cps.toList.map fun c => .str ⟨#[c]⟩)
  | _ => none
def iE (g : EF) : AF := fun s L => bnd (g s L) fun v L1 => ret (itemsOf v) L1
theorem frzL {ρ ρ1 : List Addr} {H H1 : Hp} {a : Addr} {o : Obj} {vs : List V} (e : Stb ρ ρ1 H H1) (hn : a ∉ ρ) (h : H a = some (.frz o (.lst vs))) (K : PySem.W.Frag) : SqL K H1 a vs := .inl (.inr ⟨o, e.frz _ _ _ hn h⟩)
theorem tupL {G : Gx} {ρ ρ1 : List Addr} {H H1 : Hp} {a : Addr} {vs : List V} (e : Stb ρ ρ1 H H1) (h : TupAt G ρ H a vs) : SqT G.K H1 a vs := KTup.sq (h.mono0 e.to0)
theorem iv_e (h : EV X c e g) : IV X c false tg e (iE g) := by
  refine pi_imp (pi_seq h) fun σ H R q => ?_
  refine tOf.first (R := RE _) (R' := RI _ _) (k := fun s v L1 => ret (itemsOf v) L1) q fun ρ L s v L1 ρ1 H1 u r e1 q1 o => ?_
  obtain ⟨xs, hx, k⟩ := Ou.ret o
  cases v with
  | lst ys =>
    cases hx
    obtain ⟨a, ob, vs, rfl, hn, ha, hs⟩ := q1
    refine .inl ⟨a, rfl, ⟨vs, frzL Stb.refl hn ha _⟩, k ρ1 H1 _ Ext.refl r.st fun i ρ2 H2 st => ⟨fun hi => ⟨?_, fun x H3 hy => ?_⟩, fun hi => ⟨vs, frzL st hn ha _, by rw [← hs.length]; exact hi⟩⟩⟩
    · obtain ⟨w, hw, _⟩ := hs.get (i := i) (x := xs[i]) (by simp [hi])
      exact ⟨vs, w, frzL st hn ha _, hw⟩
    · obtain ⟨rfl, hy⟩ := hy
      obtain ⟨w, hw, rw'⟩ := hs.get (i := i) (x := xs[i]) (by simp [hi])
      have := hy vs (frzL st hn ha _)
      rw [hw] at this; cases this
      exact ⟨fun _ _ z => z, .inl (rw'.mono st)⟩
  | tup ys =>
    cases hx
    obtain ⟨a, vs, rfl, ha, hs⟩ := q1
    refine .inr (.inl ⟨a, rfl, ⟨vs, KTup.sq (G := gx X c.kt) ha⟩, k ρ1 H1 _ Ext.refl r.st fun i ρ2 H2 st => ⟨fun hi => ⟨?_, fun x H3 hy => ?_⟩, fun hi => ⟨vs, tupL (G := gx X c.kt) st ha, by rw [← hs.length]; exact hi⟩⟩⟩)
    · obtain ⟨w, hw, _⟩ := hs.get (i := i) (x := xs[i]) (by simp [hi])
      exact ⟨vs, w, tupL (G := gx X c.kt) st ha, hw⟩
    · obtain ⟨rfl, hy⟩ := hy
      obtain ⟨w, hw, rw'⟩ := hs.get (i := i) (x := xs[i]) (by simp [hi])
      have := hy vs (tupL (G := gx X c.kt) st ha)
      rw [hw] at this; cases this
      exact ⟨fun _ _ z => z, .inl (rw'.mono st)⟩
  | str z =>
    cases hx
    obtain rfl : u = .str z := q1
    refine .inr (.inr ⟨z, rfl, k ρ1 H1 _ Ext.refl r.st fun i ρ2 H2 st => ⟨fun hi => ⟨?_, fun x H3 hy => ?_⟩, fun hi => ?_⟩⟩)
    · show i < z.cps.size
      simpa using hi
    · obtain ⟨rfl, d, hd, rfl⟩ := hy
      refine ⟨fun _ _ z => z, .inl ?_⟩
      have : (z.cps.toList.map fun c => PV.str ⟨#[c]⟩)[i] = .str ⟨#[d]⟩ := by
        have hd' : z.cps.toList[i]? = some d := by rw [Array.getElem?_toList]; exact hd
        rw [List.getElem_map]
        have := List.getElem?_eq_some_iff.mp hd'
        obtain ⟨h1, h2⟩ := this
        rw [h2]
      rw [this]
      rfl
    · show z.cps.size ≤ i
      simpa using hi
  | _ => cases hx
/-- range(n), range(a, b) -/
def rgItems (a : Int) (n : Nat) : List PV := (List.range n).map fun i => PV.int (a + (i : Nat))
def iRg1 (g : EF) : AF := fun s L => bnd (g s L) fun v L1 => match v with
  | .int j => if -(2 ^ 62) ≤ j ∧ j < 2 ^ 62 then some (.ok (rgItems 0 j.toNat) L1) else none
  | _ => none
def iRg2 (g g2 : EF) : AF := fun s L => bnd (g s L) fun v L1 => bnd (g2 s L1) fun w L2 => match v, w with
  | .int i, .int j => if (-(2 ^ 62) ≤ i ∧ i < 2 ^ 62) ∧ -(2 ^ 62) ≤ j ∧ j < 2 ^ 62 then some (.ok (rgItems i (j - i).toNat) L2) else none
  | _, _ => none
theorem yl_range {G : Gx} {ρ : List Addr} {H : Hp} {a : Int} {n : Nat} : Yl G false ρ H (Itr a n) (rgItems a n) := by
  intro i ρ1 H1 st
  have hl : (rgItems a n).length = n := by simp [rgItems]
  refine ⟨fun hi => ⟨by rw [hl] at hi; exact hi, fun x H2 hy => ?_⟩, fun hi => by rw [hl] at hi; exact hi⟩
  obtain ⟨rfl, rfl⟩ := hy
  refine ⟨fun _ _ z => z, .inl ?_⟩
  simp only [rgItems, List.getElem_map, List.getElem_range]
  rfl
theorem iv_range1 (hg : Gl X "range") (hm : X.mg "range" = none) (h : EV X c e g) (hs : starEach [e] X.env = [(false, eval e X.env)] := by rfl) (hs' : starEach (e :: []) X.env = (false, eval e X.env) :: starEach [] X.env := by rfl) : IV X c false tg (.Call (.Name "range" p) [e] [] pos) (iRg1 g) := by
  refine pi_imp (pi_range1 hg hm (pa_cons h pa_nil hs') hs) fun σ H R q => ?_
  refine tOf.first (R := RE _) (R' := RI _ _) (k := fun s v L1 => match v with
    | .int j => if -(2 ^ 62) ≤ j ∧ j < 2 ^ 62 then some (.ok (rgItems 0 j.toNat) L1) else none
    | _ => none) q fun ρ L s v L1 ρ1 H1 u r e1 q1 o => ?_
  split at o
  · rename_i j
    split at o
    · rename_i hj
      obtain rfl : u = .int j := q1
      exact ⟨j, rfl, hj.1, hj.2, o ρ1 H1 _ Ext.refl r.st yl_range⟩
    · exact o.elim
  · exact o.elim
theorem iv_range2 (hg : Gl X "range") (hm : X.mg "range" = none) (h : EV X c e g) (h2 : EV X c e2 g2) (hs : starEach [e, e2] X.env = [(false, eval e X.env), (false, eval e2 X.env)] := by rfl) (hs2 : starEach [e2] X.env = [(false, eval e2 X.env)] := by rfl)
    (hs' : starEach (e :: [e2]) X.env = (false, eval e X.env) :: starEach [e2] X.env := by rfl) (hs2' : starEach (e2 :: []) X.env = (false, eval e2 X.env) :: starEach [] X.env := by rfl) : IV X c false tg (.Call (.Name "range" p) [e, e2] [] pos) (iRg2 g g2) := by
  refine pi_imp (pi_range2 hg hm (pa_cons h (pa_cons h2 pa_nil hs2') hs') hs hs2) fun σ H R q => ?_
  refine tOf.first (R := RE _) (R' := RI _ _) (k := fun s v L1 => bnd (g2 s L1) fun w L2 => match v, w with
    | .int i, .int j => if (-(2 ^ 62) ≤ i ∧ i < 2 ^ 62) ∧ -(2 ^ 62) ≤ j ∧ j < 2 ^ 62 then some (.ok (rgItems i (j - i).toNat) L2) else none
    | _, _ => none) q fun ρ L s v L1 ρ1 H1 u r e1 q1 o => ?_
  refine ⟨ρ1, L1, s, r, Ou.bind (R := RE _) (R' := RI _ _) o fun w L2 ρ2 H2 u2 _ e2 t2 q2 o2 => ?_⟩
  cases v with
  | int i =>
    cases w with
    | int j =>
      dsimp only at o2
      split at o2
      · rename_i hj
        obtain rfl : u = .int i := q1
        obtain rfl : u2 = .int j := q2
        exact ⟨i, j, rfl, ⟨hj.1.1, hj.1.2, hj.2.1, hj.2.2⟩, o2 ρ2 H2 _ Ext.refl t2 yl_range⟩
      · exact o2.elim
    | _ => exact o2.elim
  | _ => cases w <;> exact o2.elim
/-- zip of two lists, two tuples -/
def zipP (xs ys : List PV) : List PV := (xs.zip ys).map fun p => PV.tup [p.1, p.2]
def hZip : PV → PV → Option (List PV)
  | .lst xs, .lst ys => some (zipP xs ys)
  | .tup xs, .tup ys => some (zipP xs ys)
  | _, _ => none
def iZp (g g2 : EF) : AF := fun s L => bnd (g s L) fun v L1 => bnd (g2 s L1) fun w L2 => ret (hZip v w) L2
theorem zipP_get {xs ys : List PV} {i : Nat} (h : i < (zipP xs ys).length) : ∃ x y, xs[i]? = some x ∧ ys[i]? = some y ∧ (zipP xs ys)[i] = .tup [x, y] := by
  have hl : i < xs.length ∧ i < ys.length := by
    simp [zipP] at h
    omega
  exact ⟨xs[i], ys[i], by simp [hl.1], by simp [hl.2], by simp [zipP]⟩
theorem iv_zip {elts : List Expr} {kk : Nat} (hg : Gl X "zip") (hm : X.mg "zip" = none) (h : EV X c e g) (h2 : EV X c e2 g2) (hs : starEach [e, e2] X.env = (false, eval e X.env) :: starEach [e2] X.env := by rfl) (hs2' : starEach (e2 :: []) X.env = (false, eval e2 X.env) :: starEach [] X.env := by rfl) (hpl : (backTo pos (starEach [e2] X.env)).any (·.1) = false := by rfl) :
    IV X c true (.Tuple elts kk tpos) (.Call (.Name "zip" p) [e, e2] [] pos) (iZp g g2) := by
  refine pi_imp (RZ.pi_zipA hg hm (pa_cons h (pa_cons h2 pa_nil hs2') hs) hs hpl) fun σ H R q => ?_
  refine tOf.first (R := RE _) (R' := RI _ _) (k := fun s v L1 => bnd (g2 s L1) fun w L2 => ret (hZip v w) L2) q fun ρ L s v L1 ρ1 H1 u r e1 q1 o => ?_
  refine ⟨ρ1, L1, s, r, Ou.bind (R := RE _) (R' := RI _ _) o fun w L2 ρ2 H2 u2 _ e2 t2 q2 o2 => ?_⟩
  obtain ⟨zs, hz, k⟩ := Ou.ret o2
  have q1 := Rep.mono e2.toStb q1
  cases v with
  | lst xs =>
    cases w with
    | lst ys =>
      cases hz
      obtain ⟨a, oa, vs, rfl, na, ha, hxs⟩ := q1
      obtain ⟨b, ob, ws, rfl, nb, hb, hys⟩ := q2
      refine ⟨a, b, vs, ws, rfl, .inl ⟨frzL Stb.refl na ha _, frzL Stb.refl nb hb _, k ρ2 H2 _ Ext.refl t2 fun i ρ3 H3 st => ⟨fun hi => ?_, fun hi => ⟨vs, ws, frzL st na ha _, frzL st nb hb _, ?_⟩⟩⟩⟩
      · obtain ⟨x, y, hx, hy, he⟩ := zipP_get hi
        obtain ⟨vx, hvx, rx⟩ := hxs.get hx
        obtain ⟨vy, hvy, ry⟩ := hys.get hy
        refine ⟨⟨vs, ws, vx, vy, frzL st na ha _, frzL st nb hb _, hvx, hvy⟩, fun z H4 hyl => ?_⟩
        obtain ⟨T, x', y', rfl, hT, rfl, k1, k2⟩ := hyl
        have e3 := k1 vs (frzL st na ha _)
        rw [hvx] at e3; cases e3
        have e4 := k2 ws (frzL st nb hb _)
        rw [hvy] at e4; cases e4
        refine ⟨fun a o h => by rw [upd_ne (ne_of_none h hT)]; exact h, ?_⟩
        rw [he]
        exact .inr ⟨rfl, [x, y], T, [vx, vy], rfl, rfl, upd_same, (Reps.cons (rx.mono st) (.cons (ry.mono st) .nil)).mono (Ext.new hT).toStb⟩
      · have h1 := hxs.length
        have h2 := hys.length
        simp [zipP] at hi
        omega
    | _ => cases hz
  | tup xs =>
    cases w with
    | tup ys =>
      cases hz
      obtain ⟨a, vs, rfl, ha, hxs⟩ := q1
      obtain ⟨b, ws, rfl, hb, hys⟩ := q2
      refine ⟨a, b, vs, ws, rfl, .inr ⟨KTup.sq (G := gx X c.kt) ha, KTup.sq (G := gx X c.kt) hb, k ρ2 H2 _ Ext.refl t2 fun i ρ3 H3 st => ⟨fun hi => ?_, fun hi => ⟨vs, ws, tupL (G := gx X c.kt) st ha, tupL (G := gx X c.kt) st hb, ?_⟩⟩⟩⟩
      · obtain ⟨x, y, hx, hy, he⟩ := zipP_get hi
        obtain ⟨vx, hvx, rx⟩ := hxs.get hx
        obtain ⟨vy, hvy, ry⟩ := hys.get hy
        refine ⟨⟨vs, ws, vx, vy, tupL (G := gx X c.kt) st ha, tupL (G := gx X c.kt) st hb, hvx, hvy⟩, fun z H4 hyl => ?_⟩
        obtain ⟨T, x', y', rfl, hT, rfl, k1, k2⟩ := hyl
        have e3 := k1 vs (tupL (G := gx X c.kt) st ha)
        rw [hvx] at e3; cases e3
        have e4 := k2 ws (tupL (G := gx X c.kt) st hb)
        rw [hvy] at e4; cases e4
        refine ⟨fun a o h => by rw [upd_ne (ne_of_none h hT)]; exact h, ?_⟩
        rw [he]
        exact .inr ⟨rfl, [x, y], T, [vx, vy], rfl, rfl, upd_same, (Reps.cons (rx.mono st) (.cons (ry.mono st) .nil)).mono (Ext.new hT).toStb⟩
      · have h1 := hxs.length
        have h2 := hys.length
        simp [zipP] at hi
        omega
    | _ => cases hz
  | _ => cases hz
end

/-! ### targets -/
abbrev TGF := PV → Slots → Option Slots
def gOf (G : Gx) (raw : Bool) (r0 : List Addr) (H0 : Hp) (t : TGF) (ix : List Nat) : TG := fun v σ H Q => ∃ ρ L s x s', RR G r0 H0 ρ L s σ H ∧ RepX G raw ρ H x v ∧ t x s = some s' ∧
  ∀ σ', RR G r0 H0 ρ L s' σ' H → σ'.length = σ.length → (∀ j, j ∉ ix → σ'[j]? = σ[j]?) → Q σ' H
def gsOf (G : Gx) (r0 : List Addr) (H0 : Hp) (t : List PV → Slots → Option Slots) (ix : List Nat) : TGs := fun vs σ H Q => ∃ ρ L s xs s', RR G r0 H0 ρ L s σ H ∧ Reps G ρ H xs vs ∧ t xs s = some s' ∧
  ∀ σ', RR G r0 H0 ρ L s' σ' H → σ'.length = σ.length → (∀ j, j ∉ ix → σ'[j]? = σ[j]?) → Q σ' H
def GV (X : Cx) (c : FC) (raw : Bool) (tg : Expr) (t : TGF) (ix : List Nat) : Prop := PG X tg (gOf (gx X c.kt) raw c.r0 c.H0 t ix)
def GVs (X : Cx) (c : FC) (tg : List Expr) (t : List PV → Slots → Option Slots) (ix : List Nat) : Prop := PGs X tg (gsOf (gx X c.kt) c.r0 c.H0 t ix)
def gNm (i : Nat) : TGF := fun x s => some (s.set i (.val x))
def gNls : List PV → Slots → Option Slots := fun xs s => match xs with
  | [] => some s
  | _ => none
def gCns (t : TGF) (u : List PV → Slots → Option Slots) : List PV → Slots → Option Slots := fun xs s => match xs with
  | x :: r => (t x s).bind (u r)
  | [] => none
def gTp (u : List PV → Slots → Option Slots) : TGF := fun x s => match x with
  | .tup xs => u xs s
  | _ => none
def gLs (u : List PV → Slots → Option Slots) : TGF := fun x s => match x with
  | .lst xs => u xs s
  | _ => none
theorem pg_imp {X : Cx} {tg : Expr} {t t' : TG} (h : PG X tg t) (i : ∀ v σ H Q, t' v σ H Q → t v σ H Q) : PG X tg t' := ⟨fun pins s σ H v u Q I r q => h.run pins s σ H v u Q I r (i v σ H Q q)⟩
theorem pgs_imp {X : Cx} {tg : List Expr} {t t' : TGs} (h : PGs X tg t) (i : ∀ v σ H Q, t' v σ H Q → t v σ H Q) : PGs X tg t' := ⟨fun pins s σ H v u Q I r q => h.run pins s σ H v u Q I r (i v σ H Q q)⟩
theorem Rsl.set {G : Gx} {H0 : Hp} {ρ : List Addr} {s : Slots} {σ : St} {H : Hp} {β : Nat → Addr} (r : Rsl G H0 ρ s σ H β) {i : Nat} {x : PV} {v : V} (h : Rep G ρ H x v) : Rsl G H0 ρ (s.set i (.val x)) (σ.set i (some v)) H β := by
  have hl := r.len
  refine ⟨by simp [hl], fun j w e => ?_, fun j d e => ?_, fun j k d d' e e' q => ?_⟩
  · by_cases hj : i = j
    · subst hj
      by_cases hi : i < s.length
      · rw [List.getElem?_set_self hi] at e
        cases e
        exact ⟨v, by rw [List.getElem?_set_self (by omega)], h⟩
      · rw [List.getElem?_eq_none (by simp; omega)] at e; cases e
    · rw [List.getElem?_set_ne hj] at e
      rw [List.getElem?_set_ne hj]
      exact r.val j w e
  · by_cases hj : i = j
    · subst hj
      by_cases hi : i < s.length
      · rw [List.getElem?_set_self hi] at e; cases e
      · rw [List.getElem?_eq_none (by simp; omega)] at e; cases e
    · rw [List.getElem?_set_ne hj] at e
      rw [List.getElem?_set_ne hj]
      exact r.own j d e
  · have h1 : i ≠ j := fun z => by
      subst z
      by_cases hi : i < s.length
      · rw [List.getElem?_set_self hi] at e; cases e
      · rw [List.getElem?_eq_none (by simp; omega)] at e; cases e
    have h2 : i ≠ k := fun z => by
      subst z
      by_cases hi : i < s.length
      · rw [List.getElem?_set_self hi] at e'; cases e'
      · rw [List.getElem?_eq_none (by simp; omega)] at e'; cases e'
    rw [List.getElem?_set_ne h1] at e
    rw [List.getElem?_set_ne h2] at e'
    exact r.inj j k d d' e e' q
theorem RR.set {G : Gx} {r0 ρ : List Addr} {H0 H : Hp} {L : Store} {s : Slots} {σ : St} (r : RR G r0 H0 ρ L s σ H) {i : Nat} {x : PV} {v : V} (h : Rep G ρ H x v) : RR G r0 H0 ρ L (s.set i (.val x)) (σ.set i (some v)) H :=
  ⟨r.st, let ⟨β, q⟩ := r.sl; ⟨β, q.set h⟩, r.ext⟩
section
variable {X : Cx} {c : FC} {pos : Pos} {t : TGF} {u : List PV → Slots → Option Slots} {ix ix' : List Nat} {e : Expr} {es : List Expr}
theorem gv_nm {i : Nat} {x : Str} (hN : X.N.Nodup) (hi : X.N[i]? = some x) (hx : Loc X.env.scope x) (hf : X.fn x = true ∨ X.env.scope.names.lookup x = some .local := by first | exact .inl rfl | exact .inr rfl | assumption) : GV X c false (.Name x pos) (gNm i) [i] := by
  refine pg_imp (pg_name hN hi hx hf) fun v σ H Q h => ?_
  obtain ⟨ρ, L, s, x, s', r, rx | ⟨rx, _⟩, e, k⟩ := h
  rotate_left
  · cases rx
  cases e
  exact k _ (r.set rx) (by simp) fun j hj => List.getElem?_set_ne (by simpa using Ne.symm (by simpa using hj))
theorem gvs_nil : GVs X c [] gNls [] := by
  refine pgs_imp pgs_nil fun vs σ H Q h => ?_
  obtain ⟨ρ, L, s, xs, s', r, rx, e, k⟩ := h
  cases xs with
  | nil => cases e; exact ⟨rx, k σ r rfl fun _ _ => rfl⟩
  | cons _ _ => cases e
theorem gvs_cons (h1 : GV X c false e t ix) (h2 : GVs X c es u ix') (hs : (assignEach (e :: es) X.env).map (·.2) = assign e X.env :: (assignEach es X.env).map (·.2) := by rfl) : GVs X c (e :: es) (gCns t u) (ix ++ ix') := by
  refine pgs_imp (pgs_cons h1 h2 hs) fun vs σ H Q h => ?_
  obtain ⟨ρ, L, s, xs, s', r, rx, e, k⟩ := h
  cases xs with
  | nil => cases e
  | cons x xs =>
    obtain ⟨v, vr, rfl, r1, r2⟩ := rx
    have e : (t x s).bind (u xs) = some s' := e
    cases ht : t x s with
    | none => rw [ht] at e; cases e
    | some s1 =>
      rw [ht] at e
      refine ⟨v, vr, rfl, ρ, L, s, x, s1, r, .inl r1, ht, fun σ1 R1 hl1 hj1 => ⟨ρ, L, s1, xs, s', R1, r2, e, fun σ2 R2 hl2 hj2 => k σ2 R2 (hl2.trans hl1) fun j hj => ?_⟩⟩
      rw [List.mem_append] at hj
      rw [hj2 j (fun z => hj (.inr z)), hj1 j fun z => hj (.inl z)]
theorem gv_tp {raw : Bool} {k : Nat} {n : Nat} (hc : X.calm = true) (h : GVs X c es u ix) (hn : (assignEach es X.env).length = n := by rfl) (hst : (assignEach es X.env).findIdx? (·.1) = none := by rfl)
    (hu : ∀ xs s s', u xs s = some s' → xs.length = n) : GV X c raw (.Tuple es k pos) (gTp u) ix := by
  refine pg_imp (pg_tup hc h hn hst) fun v σ H Q q => ?_
  obtain ⟨ρ, L, s, x, s', r, rx, e, k⟩ := q
  cases x with
  | tup xs =>
    rcases rx with ⟨a, vs, rfl, ha, hs⟩ | ⟨_, xs', a, vs, ex, rfl, ha, hs⟩
    · exact ⟨a, vs, rfl, KTup.sq ha, by rw [← hs.length]; exact hu _ _ _ e, ρ, L, s, xs, s', r, hs, e, k⟩
    · cases ex
      exact ⟨a, vs, rfl, .inl (.inl ha), by rw [← hs.length]; exact hu _ _ _ e, ρ, L, s, xs, s', r, hs, e, k⟩
  | _ => cases e
theorem gv_ls {raw : Bool} {k : Nat} {n : Nat} (hc : X.calm = true) (h : GVs X c es u ix) (hn : (assignEach es X.env).length = n := by rfl) (hst : (assignEach es X.env).findIdx? (·.1) = none := by rfl)
    (hu : ∀ xs s s', u xs s = some s' → xs.length = n) : GV X c raw (.Tuple es k pos) (gLs u) ix := by
  refine pg_imp (pg_unl hc h hn hst) fun v σ H Q q => ?_
  obtain ⟨ρ, L, s, x, s', r, rx, e, k⟩ := q
  cases x with
  | lst xs =>
    rcases rx with ⟨a, o, vs, rfl, hn, ha, hs⟩ | ⟨_, xs', a, vs, ex, _⟩
    rotate_left
    · cases ex
    exact ⟨a, vs, rfl, .inl (.inr ⟨o, ha⟩), by rw [← hs.length]; exact hu _ _ _ e, ρ, L, s, xs, s', r, hs, e, k⟩
  | _ => cases e
theorem gl_nil : ∀ xs s s', gNls xs s = some s' → xs.length = 0 := fun xs s s' h => by
  cases xs with
  | nil => rfl
  | cons _ _ => cases h
theorem gl_cons {n : Nat} (h : ∀ xs s s', u xs s = some s' → xs.length = n) : ∀ xs s s', gCns t u xs s = some s' → xs.length = n + 1 := fun xs s s' e => by
  cases xs with
  | nil => cases e
  | cons x xs =>
    have e : (t x s).bind (u xs) = some s' := e
    cases ht : t x s with
    | none => rw [ht] at e; cases e
    | some s1 => rw [ht] at e; simp [h _ _ _ e]
end
end Fx

set_option Elab.async false
set_option linter.all false
set_option maxRecDepth 100000
set_option maxHeartbeats 1000000
/-! Fx part 9: list comprehensions. -/
namespace Fx
open PySem L2

/-- .. where nothing is raised -/
def bndN {α β : Type} (r : Option (Res α)) (k : α → Store → Option (Res β)) : Option (Res β) :=
  match r with
  | some (.ok a L) => k a L
  | _ => none
theorem bndN_ok {α β : Type} {a : α} {L : Store} {k : α → Store → Option (Res β)} : bndN (some (.ok a L)) k = k a L := rfl
abbrev FC.nox (c : FC) : FC := { c with W := fun _ _ _ _ => False }
def wipeS (s : Slots) : List Nat → Slots
  | [] => s
  | v :: vs => (wipeS s vs).set v .no
def cLoop (t : TGF) (p : BF) (g : EF) (s : Slots) : List PV → List PV → Store → Option (Res Cell)
  | [], acc, L => some (.ok (.lst acc) L)
  | x :: r, acc, L => match t x s with
    | none => none
    | some s1 => bndN (p s1 L) fun b L1 => if b = true then bndN (g s1 L1) fun y L2 => if acc.length < sizeLine then cLoop t p g s r (acc ++ [y]) L2 else none else cLoop t p g s r acc L1
def nComp (fi : AF) (t : TGF) (p : BF) (g : EF) (vs : List Nat) : CF := fun s L => bnd (fi s L) fun xs L1 => cLoop t p g (wipeS s vs) xs [] L1
def pYes : BF := fun _ L => some (.ok true L)
def TVs (X : Cx) (c : FC) (es : List Expr) (p : BF) : Prop := PTs X es (tOf (gx X c.kt) RB c.r0 c.H0 c.W p)
theorem pts_imp {X : Cx} {es : List Expr} {t t' : TT} (h : PTs X es t) (i : ∀ σ H Q, t' σ H Q → t σ H Q) : PTs X es t' := ⟨fun pins s σ H Q I q => h.run pins s σ H Q I (i σ H Q q)⟩
theorem tvs_nil {X : Cx} {c : FC} : TVs X c [] pYes := pts_imp pts_nil fun σ H Q h => by
  obtain ⟨ρ, L, s, r, o⟩ := h
  exact o ρ H _ Ext.refl r.st rfl
theorem tvs_one {X : Cx} {c : FC} {e : Expr} {p : BF} (h : TV X c e p) : TVs X c [e] p := pts_one h

theorem Rsl.no {G : Gx} {H0 : Hp} {ρ : List Addr} {s : Slots} {σ : St} {H : Hp} {β : Nat → Addr} (r : Rsl G H0 ρ s σ H β) {i : Nat} {o : Option V} : Rsl G H0 ρ (s.set i .no) (σ.set i o) H β := by
  have hl := r.len
  have key : ∀ (j : Nat) (x : SV), x ≠ .no → (s.set i .no)[j]? = some x → i ≠ j ∧ s[j]? = some x := fun j x hx e => by
    have hj : i ≠ j := fun z => by
      subst z
      by_cases hi : i < s.length
      · rw [List.getElem?_set_self hi] at e; cases e; exact hx rfl
      · rw [List.getElem?_eq_none (by simp; omega)] at e; cases e
    exact ⟨hj, by rwa [List.getElem?_set_ne hj] at e⟩
  refine ⟨by simp [hl], fun j w e => ?_, fun j d e => ?_, fun j k d d' e e' q => ?_⟩
  · obtain ⟨hj, e⟩ := key j _ (by simp) e
    rw [List.getElem?_set_ne hj]
    exact r.val j w e
  · obtain ⟨hj, e⟩ := key j _ (by simp) e
    rw [List.getElem?_set_ne hj]
    exact r.own j d e
  · exact r.inj j k d d' (key j _ (by simp) e).2 (key k _ (by simp) e').2 q
theorem RR.wipe {G : Gx} {r0 ρ : List Addr} {H0 H : Hp} {L : Store} {s : Slots} {σ : St} (r : RR G r0 H0 ρ L s σ H) : ∀ vs : List Nat, RR G r0 H0 ρ L (wipeS s vs) (L2.wipe σ vs) H
  | [] => r
  | v :: vs =>
    let q := RR.wipe r vs
    ⟨q.st, let ⟨β, z⟩ := q.sl; ⟨β, z.no⟩, q.ext⟩
theorem wipe_at (σ : St) (vs : List Nat) (j : Nat) : (wipe σ vs)[j]? = if j ∈ vs ∧ j < σ.length then some none else σ[j]? := by
  induction vs with
  | nil => simp [wipe]
  | cons v vs ih =>
    unfold wipe
    by_cases hv : v = j
    · subst hv
      by_cases hl : v < σ.length
      · rw [List.getElem?_set_self (by rw [wipe_length]; exact hl), if_pos ⟨by simp, hl⟩]
      · rw [List.getElem?_eq_none (by rw [List.length_set, wipe_length]; omega), if_neg (fun z => hl z.2), List.getElem?_eq_none (by omega)]
    · rw [List.getElem?_set_ne hv, ih]
      have : (j ∈ v :: vs) ↔ j ∈ vs := by simp [Ne.symm hv]
      simp [this]
theorem wipe_eq {σ τ : St} {vs : List Nat} (hl : τ.length = σ.length) (h : ∀ j, j ∉ vs → τ[j]? = (wipe σ vs)[j]?) : wipe τ vs = wipe σ vs := by
  apply List.ext_getElem?
  intro j
  rw [wipe_at, wipe_at]
  by_cases hj : j ∈ vs
  · by_cases h2 : j < σ.length
    · rw [if_pos ⟨hj, by omega⟩, if_pos ⟨hj, h2⟩]
    · rw [if_neg (fun z => h2 (by omega)), if_neg (fun z => h2 z.2), List.getElem?_eq_none (by omega), List.getElem?_eq_none (by omega)]
  · have := h j hj
    rw [wipe_at, if_neg (fun z => hj z.1)] at this
    rw [if_neg (fun z => hj z.1), if_neg (fun z => hj z.1), this]
theorem Rst.same {G : Gx} {ρ : List Addr} {L : Store} {H H' : Hp} (r : Rst G ρ L H) (k : ∀ a o, H a = some o → H' a = some o) : Rst G ρ L H' :=
  r.keep (Ext.same k).toStb fun a ha => by
    obtain ⟨o, e, _⟩ := r.live ha
    rw [e, k a o e]

section
variable {X : Cx} {c : FC} {elt tg iter : Expr} {ifs : List Expr} {scope : Scope} {own : List (Str × Nat)} {pos : Pos} {fi : AF} {t : TGF} {ix : List Nat} {p : BF} {g : EF}
/-- the state ahead of a turn -/
def CI (G : Gx) (W : WX) (t : TGF) (p : BF) (g : EF) (s : Slots) (ρ1 : List Addr) (σ : St) (H1 : Hp) (Q : VK) (D : Addr) (xs : List PV) (i : Nat) (H : Hp) : Prop :=
  ∃ ρ L acc av, Ext ρ1 ρ H1 H ∧ Rst G ρ L H ∧ D ∉ ρ ∧ H D = some (.lst av) ∧ Reps G ρ H acc av ∧ Ou G (RN G) W ρ1 σ H1 Q (cLoop t p g s (xs.drop i) acc L)
theorem comp_read {G : Gx} {raw : Bool} {vs : List Nat} (hix : ∀ j ∈ ix, j ∈ vs) {σ : St} {H : Hp} {Q : VK} (q : tOf G (RN G) c.r0 c.H0 c.W (nComp fi t p g vs) σ H Q) :
    tLc (tOf G (RI G raw) c.r0 c.H0 c.W fi) (gOf G raw c.r0 c.H0 t ix) (tOf G RB c.r0 c.H0 (fun _ _ _ _ => False) p) (tOf G (RE G) c.r0 c.H0 (fun _ _ _ _ => False) g) vs σ H Q := by
  refine tOf.first (R := RI G raw) (R' := RN G) (k := fun s xs L1 => cLoop t p g (wipeS s vs) xs [] L1) q fun ρ L s xs L1 ρ1 H1 J r e1 q1 o => ?_
  intro D hD
  refine ⟨fun i m H' => m = xs.length - i ∧ i ≤ xs.length ∧ CI G c.W t p g (wipeS s vs) ρ1 σ H1 Q D xs i H', ⟨xs.length, by simp, Nat.zero_le _, ρ1, L1, [], [], Ext.new hD, r.st.new hD, r.st.fresh hD, upd_same, .nil, by simpa using o⟩, ?_⟩
  rintro i m Hi ⟨rfl, hi, ρ2, L2, acc, av, e2, t2, nD, aD, ra, oi⟩
  obtain ⟨y1, y2⟩ := q1 i ρ2 Hi e2.toStb
  by_cases hlt : i < xs.length
  · obtain ⟨go, yl⟩ := y1 hlt
    refine .inr ⟨go, fun H' => CI G c.W t p g (wipeS s vs) ρ1 σ H1 Q D xs (i + 1) H', fun H' h => ⟨xs.length - (i + 1), by omega, rfl, hlt, h⟩, fun x H' hy => ?_⟩
    obtain ⟨k, rx⟩ := yl x H' hy
    have R2 := (r.go e2 t2).go (Ext.same k) (t2.same k)
    have hd : xs.drop i = xs[i] :: xs.drop (i + 1) := by rw [List.drop_eq_getElem_cons hlt]
    rw [hd] at oi
    unfold cLoop at oi
    cases ht : t xs[i] (wipeS s vs) with
    | none => rw [ht] at oi; exact oi.elim
    | some s1 =>
      rw [ht] at oi
      dsimp only at oi
      have e3 : Ext ρ1 ρ2 H1 H' := e2.trans (Ext.same k)
      have aD3 : H' D = some (.lst av) := k _ _ aD
      refine ⟨ρ2, L2, wipeS s vs, xs[i], s1, R2.wipe vs, rx, ht, fun σ1 R3 hl hj => ⟨wipe_eq (by rw [hl, wipe_length]) fun j hn => hj j fun z => hn (hix j z), ρ2, L2, s1, R3, ?_⟩⟩
      cases hp : p s1 L2 with
      | none => rw [hp] at oi; exact oi.elim
      | some a =>
        cases a with
        | err _ _ => rw [hp] at oi; exact oi.elim
        | ok b L3 =>
          rw [hp] at oi
          have oi : Ou G (RN G) c.W ρ1 σ H1 Q (if b = true then bndN (g s1 L3) fun y L2 => if acc.length < sizeLine then cLoop t p g (wipeS s vs) (xs.drop (i + 1)) (acc ++ [y]) L2 else none else cLoop t p g (wipeS s vs) (xs.drop (i + 1)) acc L3) := oi
          intro ρ3 H3 b' e4 t3 hb
          obtain rfl : b = b' := hb
          have aD4 : H3 D = some (.lst av) := e4.keep _ _ nD aD3
          have nD4 : D ∉ ρ3 := e4.notin nD aD3
          have ra4 := (ra.mono (Ext.same (ρ := ρ2) k).toStb).mono e4.toStb
          cases b with
          | false =>
            rw [if_neg Bool.false_ne_true] at oi ⊢
            exact ⟨ρ3, L3, acc, av, e3.trans e4, t3, nD4, aD4, ra4, oi⟩
          | true =>
            rw [if_pos rfl] at oi ⊢
            refine ⟨ρ3, L3, s1, R3.go e4 t3, ?_⟩
            cases hg : g s1 L3 with
            | none => rw [hg] at oi; exact oi.elim
            | some a =>
              cases a with
              | err _ _ => rw [hg] at oi; exact oi.elim
              | ok y L4 =>
                rw [hg] at oi
                have oi : Ou G (RN G) c.W ρ1 σ H1 Q (if acc.length < sizeLine then cLoop t p g (wipeS s vs) (xs.drop (i + 1)) (acc ++ [y]) L4 else none) := oi
                intro ρ5 H5 yv e5 t5 ry
                by_cases hz : acc.length < sizeLine
                · rw [if_pos hz] at oi
                  have aD5 : H5 D = some (.lst av) := e5.keep _ _ nD4 aD4
                  have nD5 : D ∉ ρ5 := e5.notin nD4 aD4
                  have ra5 := ra4.mono e5.toStb
                  refine ⟨av, aD5, by rw [← ra5.length]; exact hz, ?_⟩
                  have e6 := (e3.trans e4).trans e5
                  have st : Stb ρ5 ρ5 H5 (upd H5 D (.lst (av ++ [yv]))) := Stb.mut aD5 trivial
                  exact ⟨ρ5, L4, acc ++ [y], av ++ [yv], e6.mutNew hD aD5 trivial, t5.mutOut nD5 aD5 trivial, nD5, upd_same, (ra5.append (.cons ry .nil)).mono st, oi⟩
                · rw [if_neg hz] at oi; exact oi.elim
  · have hi' : i = xs.length := by omega
    subst hi'
    refine .inl ⟨y2 (Nat.le_refl _), ?_⟩
    rw [List.drop_length] at oi
    exact oi ρ2 Hi _ e2 t2 ⟨D, rfl, nD, hD, av, aD, ra⟩
theorem nv_lc {raw : Bool} (hc : X.calm = true) (hN : X.N.Nodup) (hi : IV X c raw tg iter fi) (ok : BlkOk X.N X.env.scope scope own)
    (hg : ∀ (s : Shared) (H : Hp) (C : Addr) (cl : List (Str × Addr)) (fp : List Addr), GV (X.blk s H scope (compEnvC scope cl C X.env) fp) c raw tg t ix)
    (ht : ∀ (s : Shared) (H : Hp) (C : Addr) (cl : List (Str × Addr)) (fp : List Addr), TVs (X.blk s H scope (compEnvC scope cl C X.env) fp) c.nox ifs p)
    (he : ∀ (s : Shared) (H : Hp) (C : Addr) (cl : List (Str × Addr)) (fp : List Addr), EV (X.blk s H scope (compEnvC scope cl C X.env) fp) c.nox elt g)
    (hix : ∀ j ∈ ix, j ∈ own.map (·.2) := by decide) (hs : ∀ x, foldedSetIterable iter X.env x = pure x := by intro _; rfl) :
    NV X c (.ListComp elt [⟨tg, iter, ifs, 0⟩] scope pos) (nComp fi t p g (own.map (·.2))) :=
  pe_imp (pe_lc (g := gOf (gx X c.kt) raw c.r0 c.H0 t ix) (tt := tOf (gx X c.kt) RB c.r0 c.H0 (fun _ _ _ _ => False) p) (te := tOf (gx X c.kt) (RE (gx X c.kt)) c.r0 c.H0 (fun _ _ _ _ => False) g) hc hN hi ok hg ht he hs) fun _ _ _ q => comp_read hix q
end
end Fx

set_option Elab.async false
set_option linter.all false
set_option maxRecDepth 100000
set_option maxHeartbeats 1000000
/-! Fx part 10: statements. -/
namespace Fx
open PySem L2

/-! ### the content of a mutable object, changed -/
def URep (G : Gx) (ρ : List Addr) (H : Hp) : Cell → HO → Prop
  | .lst xs, u => ∃ vs, u = .lst vs ∧ Reps G ρ H xs vs
  | .dk kvs, u => ∃ l, u = .dK l ∧ DRep G ρ H kvs l
  | .dt kvs, u => ∃ l, u = .dT l ∧ DRep G ρ H kvs l
  | .ins C fs, u => ∃ c dx l, u = .ins c dx l ∧ G.mg C = some (.ref c) ∧ l.map (·.1) = fs.map (·.1) ∧ Reps G ρ H (fs.map (·.2)) (l.map (·.2))
theorem URep.mut {G : Gx} {ρ : List Addr} {H : Hp} : ∀ {c : Cell} {u : HO}, URep G ρ H c u → Mut (some u)
  | .lst xs, _, ⟨_, rfl, _⟩ => trivial
  | .dk xs, _, ⟨_, rfl, _⟩ => trivial
  | .dt xs, _, ⟨_, rfl, _⟩ => trivial
  | .ins _ _, _, ⟨_, _, _, rfl, _⟩ => trivial
theorem URep.mono {G : Gx} {ρ ρ' : List Addr} {H H' : Hp} (e : Stb ρ ρ' H H') : ∀ {c : Cell} {u : HO}, URep G ρ H c u → URep G ρ' H' c u
  | .lst xs, _, ⟨vs, rfl, h⟩ => ⟨vs, rfl, h.mono e⟩
  | .dk xs, _, ⟨l, rfl, h⟩ => ⟨l, rfl, h.mono e⟩
  | .dt xs, _, ⟨l, rfl, h⟩ => ⟨l, rfl, h.mono e⟩
  | .ins _ _, _, ⟨c, dx, l, rfl, h1, h2, h⟩ => ⟨c, dx, l, rfl, h1, h2, h.mono e⟩
theorem URep.crep {G : Gx} {ρ : List Addr} {H : Hp} {p : Addr} : ∀ {c : Cell} {u : HO}, URep G ρ H c u → H p = some u → CRep G ρ H p c
  | .lst xs, _, ⟨vs, rfl, h⟩, e => ⟨vs, e, h⟩
  | .dk xs, _, ⟨l, rfl, h⟩, e => ⟨l, e, h⟩
  | .dt xs, _, ⟨l, rfl, h⟩, e => ⟨l, e, h⟩
  | .ins _ _, _, ⟨c, dx, l, rfl, h1, h2, h⟩, e => ⟨c, dx, l, e, h1, h2, h⟩
theorem CRep.urep {G : Gx} {ρ : List Addr} {H : Hp} {p : Addr} : ∀ {c : Cell}, CRep G ρ H p c → ∃ u, H p = some u ∧ URep G ρ H c u
  | .lst xs, ⟨vs, e, h⟩ => ⟨_, e, vs, rfl, h⟩
  | .dk xs, ⟨l, e, h⟩ => ⟨_, e, l, rfl, h⟩
  | .dt xs, ⟨l, e, h⟩ => ⟨_, e, l, rfl, h⟩
  | .ins _ _, ⟨c, dx, l, e, h1, h2, h⟩ => ⟨_, e, c, dx, l, rfl, h1, h2, h⟩
theorem Ext.mutIn {ρ ρ' : List Addr} {H H' : Hp} {p : Addr} {u w : HO} (e : Ext ρ ρ' H H') (hp : p ∈ ρ' ∨ H p = none) (h : H' p = some w) (mu : Mut (some w)) : Ext ρ ρ' H (upd H' p u) := by
  obtain ⟨new, en, hn⟩ := e.pre
  have ne : ∀ a o, a ∉ ρ → H a = some o → a ≠ p := fun a o na ha z => by
    subst z
    rcases hp with hp | hp
    · rw [en] at hp
      rcases List.mem_append.mp hp with q | q
      · exact na q
      · rw [hn a q] at ha; cases ha
    · rw [hp] at ha; cases ha
  refine ⟨⟨e.pre, fun a o q => ?_, fun a xs q => ?_, fun a o u' hn' q => by rw [upd_ne (ne _ _ hn' q)]; exact e.frz a o u' hn' q⟩, fun a o hn' q => by rw [upd_ne (ne _ _ hn' q)]; exact e.keep a o hn' q⟩
  · by_cases z : a = p
    · exact ⟨u, by rw [z, upd_same]⟩
    · obtain ⟨o', q'⟩ := e.there a o q
      exact ⟨o', by rw [upd_ne z]; exact q'⟩
  · have h1 := e.tup a xs q
    rw [upd_ne]
    · exact h1
    · rintro rfl
      rw [h] at h1; cases h1; exact mu
/-- an own object is changed -/
theorem RR.ownSet {G : Gx} {r0 ρ : List Addr} {H0 H : Hp} {L : Store} {s : Slots} {σ : St} (r : RR G r0 H0 ρ L s σ H) {i : Nat} {c c' : Cell} (e : s[i]? = some (.own c)) {p : Addr} (hp : σ[i]? = some (some (.ref p))) {u : HO} (h : URep G ρ H c' u) :
    Stb ρ ρ H (upd H p u) ∧ RR G r0 H0 ρ L (s.set i (.own c')) σ (upd H p u) := by
  obtain ⟨β, q⟩ := r.sl
  obtain ⟨h1, h2, h3, h4⟩ := q.own i c e
  rw [hp] at h1
  have hb : p = β i := by
    injection h1 with h1; injection h1 with h1; injection h1
  subst hb
  obtain ⟨w, hw, mw⟩ := h2.there
  have st : Stb ρ ρ H (upd H (β i) u) := Stb.mut hw mw
  have hi : i < s.length := (List.getElem?_eq_some_iff.mp e).1
  refine ⟨st, r.st.mutOut h3 hw mw, ⟨β, by simpa using q.len, fun j v ej => ?_, fun j d ej => ?_, fun j k d d' ej ek eq => ?_⟩, r.ext.mutIn (.inr h4) hw mw⟩
  · by_cases hj : i = j
    · subst hj; rw [List.getElem?_set_self hi] at ej; cases ej
    · rw [List.getElem?_set_ne hj] at ej
      obtain ⟨x, k1, k2⟩ := q.val j v ej
      exact ⟨x, k1, k2.mono st⟩
  · by_cases hj : i = j
    · subst hj
      rw [List.getElem?_set_self hi] at ej
      cases ej
      exact ⟨hp, (h.mono st).crep upd_same, h3, h4⟩
    · rw [List.getElem?_set_ne hj] at ej
      obtain ⟨k1, k2, k3, k4⟩ := q.own j d ej
      exact ⟨k1, k2.mono st (upd_ne fun z => hj (q.inj i j c d e ej z.symm)), k3, k4⟩
  · have f : ∀ (j : Nat) (d : Cell), (s.set i (.own c'))[j]? = some (.own d) → ∃ d, s[j]? = some (.own d) := fun j d ej => by
      by_cases hj : i = j
      · subst hj; exact ⟨c, e⟩
      · rw [List.getElem?_set_ne hj] at ej; exact ⟨d, ej⟩
    obtain ⟨d1, e1⟩ := f j d ej
    obtain ⟨d2, e2⟩ := f k d' ek
    exact q.inj j k d1 d2 e1 e2 eq
/-- an object of the store is changed -/
theorem RR.locSet {G : Gx} {r0 ρ : List Addr} {H0 H : Hp} {L : Store} {s : Slots} {σ : St} (r : RR G r0 H0 ρ L s σ H) {n : Nat} {c c' : Cell} (e : L[n]? = some c) {p : Addr} (hp : ρ[n]? = some p) {u : HO} (h : URep G ρ H c' u) :
    Stb ρ ρ H (upd H p u) ∧ RR G r0 H0 ρ (L.set n c') s σ (upd H p u) := by
  have h2 := r.st.cell n c p e hp
  obtain ⟨w, hw, mw⟩ := h2.there
  have st : Stb ρ ρ H (upd H p u) := Stb.mut hw mw
  have hn : n < L.length := (List.getElem?_eq_some_iff.mp e).1
  have hm : p ∈ ρ := List.mem_of_getElem? hp
  refine ⟨st, ⟨by simpa using r.st.len, r.st.nd, fun m d a em ea => ?_⟩, ?_, r.ext.mutIn (.inl hm) hw mw⟩
  · by_cases hj : n = m
    · subst hj
      rw [List.getElem?_set_self hn] at em
      cases em
      rw [hp] at ea; cases ea
      exact (h.mono st).crep upd_same
    · rw [List.getElem?_set_ne hj] at em
      refine (r.st.cell m d a em ea).mono st (upd_ne fun z => hj ?_)
      subst z
      obtain ⟨l1, e1⟩ := List.getElem?_eq_some_iff.mp ea
      obtain ⟨l2, e2⟩ := List.getElem?_eq_some_iff.mp hp
      exact (List.getElem_inj r.st.nd).mp (e2.trans e1.symm)
  · obtain ⟨β, q⟩ := r.sl
    refine ⟨β, q.len, fun j v ej => ?_, fun j d ej => ?_, q.inj⟩
    · obtain ⟨x, k1, k2⟩ := q.val j v ej
      exact ⟨x, k1, k2.mono st⟩
    · obtain ⟨k1, k2, k3, k4⟩ := q.own j d ej
      exact ⟨k1, k2.mono st (upd_ne fun z => k3 (by rw [z]; exact hm)), k3, k4⟩
/-- a new object comes into a slot -/
theorem RR.ownNew {G : Gx} {r0 ρ ρ' : List Addr} {H0 H H' : Hp} {L L' : Store} {s : Slots} {σ : St} (r : RR G r0 H0 ρ L s σ H) (e : Ext ρ ρ' H H') (t : Rst G ρ' L' H') {c : Cell} {v : V} (h : RN G H ρ' H' c v) (i : Nat) : RR G r0 H0 ρ' L' (s.set i (.own c)) (σ.set i (some v)) H' := by
  obtain ⟨p, rfl, hp, hn, hc⟩ := h
  have r' := r.go e t
  refine ⟨t, ?_, r'.ext⟩
  obtain ⟨β, q⟩ := r.sl
  have q' := q.ext e
  have hl := q.len
  refine ⟨fun j => if j = i then p else β j, by simp [hl], fun j w ej => ?_, fun j d ej => ?_, fun j k d d' ej ek eq => ?_⟩
  · by_cases hj : i = j
    · subst hj
      by_cases hi : i < s.length
      · rw [List.getElem?_set_self hi] at ej; cases ej
      · rw [List.getElem?_eq_none (by simp; omega)] at ej; cases ej
    · rw [List.getElem?_set_ne hj] at ej
      rw [List.getElem?_set_ne hj]
      exact q'.val j w ej
  · by_cases hj : i = j
    · subst hj
      by_cases hi : i < s.length
      · rw [List.getElem?_set_self hi] at ej
        cases ej
        refine ⟨by rw [List.getElem?_set_self (by omega), if_pos rfl], by rw [if_pos rfl]; exact hc, by rw [if_pos rfl]; exact hp, by rw [if_pos rfl]; exact r.ext.toStb.noneOf hn⟩
      · rw [List.getElem?_eq_none (by simp; omega)] at ej; cases ej
    · rw [List.getElem?_set_ne hj] at ej
      rw [List.getElem?_set_ne hj, if_neg (Ne.symm hj)]
      exact q'.own j d ej
  · have old : ∀ (j : Nat) (d : Cell), j ≠ i → (s.set i (.own c))[j]? = some (.own d) → s[j]? = some (.own d) ∧ β j ≠ p := fun j d hj ej => by
      rw [List.getElem?_set_ne (Ne.symm hj)] at ej
      refine ⟨ej, fun z => ?_⟩
      obtain ⟨_, h2, _, _⟩ := q.own j d ej
      obtain ⟨o, ho, _⟩ := h2.there
      rw [z, hn] at ho; cases ho
    by_cases h1 : j = i
    · by_cases h2 : k = i
      · rw [h1, h2]
      · obtain ⟨_, n⟩ := old k d' h2 ek
        simp only [if_pos h1, if_neg h2] at eq
        exact absurd eq.symm n
    · by_cases h2 : k = i
      · obtain ⟨_, n⟩ := old j d h1 ej
        simp only [if_neg h1, if_pos h2] at eq
        exact absurd eq n
      · simp only [if_neg h1, if_neg h2] at eq
        exact q.inj j k d d' (old j d h1 ej).1 (old k d' h2 ek).1 eq
/-- an own object is frozen -/
theorem RR.ownFrz {G : Gx} {r0 ρ : List Addr} {H0 H : Hp} {L : Store} {s : Slots} {σ : St} (r : RR G r0 H0 ρ L s σ H) {i : Nat} {c : Cell} {x : PV} (e : s[i]? = some (.own c)) (hf : frzC c = some x) :
    ∃ p u, H p = some u ∧ Mut (some u) ∧ ∀ o, Stb ρ ρ H (upd H p (.frz o u)) ∧ RR G r0 H0 ρ L (s.set i (.val x)) σ (upd H p (.frz o u)) := by
  obtain ⟨β, q⟩ := r.sl
  obtain ⟨h1, h2, h3, h4⟩ := q.own i c e
  obtain ⟨u, hu, mu, hr⟩ := h2.frz h3 hf
  refine ⟨β i, u, hu, mu, fun od => ?_⟩
  have st : Stb ρ ρ H (upd H (β i) (.frz od u)) := Stb.mut hu mu
  have hi : i < s.length := (List.getElem?_eq_some_iff.mp e).1
  refine ⟨st, r.st.mutOut h3 hu mu, ⟨β, by simpa using q.len, fun j v ej => ?_, fun j d ej => ?_, fun j k d d' ej ek eq => ?_⟩, r.ext.mutIn (.inr h4) hu mu⟩
  · by_cases hj : i = j
    · subst hj
      rw [List.getElem?_set_self hi] at ej
      cases ej
      exact ⟨_, h1, hr od⟩
    · rw [List.getElem?_set_ne hj] at ej
      obtain ⟨w, k1, k2⟩ := q.val j v ej
      exact ⟨w, k1, k2.mono st⟩
  · by_cases hj : i = j
    · subst hj; rw [List.getElem?_set_self hi] at ej; cases ej
    · rw [List.getElem?_set_ne hj] at ej
      obtain ⟨k1, k2, k3, k4⟩ := q.own j d ej
      exact ⟨k1, k2.mono st (upd_ne fun z => hj (q.inj i j c d e ej z.symm)), k3, k4⟩
  · have f : ∀ (j : Nat) (d : Cell), (s.set i (.val x))[j]? = some (.own d) → s[j]? = some (.own d) := fun j d ej => by
      by_cases hj : i = j
      · subst hj; rw [List.getElem?_set_self hi] at ej; cases ej
      · rw [List.getElem?_set_ne hj] at ej; exact ej
    exact q.inj j k d d' (f j d ej) (f k d' ek) eq

/-! ### readings of statements -/
def OuS (G : Gx) (r0 : List Addr) (H0 : Hp) (W : WX) (ρ : List Addr) (H : Hp) (D : Ends) : Option (Res Flw) → Prop
  | some (.ok (.nx s') L') => ∀ ρ' H' σ', Stb ρ ρ' H H' → RR G r0 H0 ρ' L' s' σ' H' → D.nx σ' H'
  | some (.ok (.bk s') L') => ∀ ρ' H' σ', Stb ρ ρ' H H' → RR G r0 H0 ρ' L' s' σ' H' → D.bk σ' H'
  | some (.ok (.ct s') L') => ∀ ρ' H' σ', Stb ρ ρ' H H' → RR G r0 H0 ρ' L' s' σ' H' → D.ct σ' H'
  | some (.ok (.rt v) L') => ∀ ρ' H' u, Ext r0 ρ' H0 H' → Rst G ρ' L' H' → Rep G ρ' H' v u → D.rt u H'
  | some (.err x L') => ∀ ρ' H' σ' cls d, Ext r0 ρ' H0 H' → Rst G ρ' L' H' → XRep G ρ' H' x cls d → W cls d σ' H'
  | none => False
theorem OuS.ext {G : Gx} {r0 ρ ρ1 : List Addr} {H0 H H1 : Hp} {W : WX} {D : Ends} {r : Option (Res Flw)} (h : OuS G r0 H0 W ρ H D r) (e : Stb ρ ρ1 H H1) : OuS G r0 H0 W ρ1 H1 D r := by
  match r, h with
  | some (.ok (.nx s) L), h => exact fun ρ' H' σ' f R => h ρ' H' σ' (e.trans f) R
  | some (.ok (.bk s) L), h => exact fun ρ' H' σ' f R => h ρ' H' σ' (e.trans f) R
  | some (.ok (.ct s) L), h => exact fun ρ' H' σ' f R => h ρ' H' σ' (e.trans f) R
  | some (.ok (.rt s) L), h => exact h
  | some (.err x L), h => exact h
def tS (G : Gx) (r0 : List Addr) (H0 : Hp) (W : WX) (f : SF) : TS := fun D σ H => ∃ ρ L s, RR G r0 H0 ρ L s σ H ∧ OuS G r0 H0 W ρ H D (f s L)
theorem OuS.bind {α β : Type} {G : Gx} {R : RT α β} {r0 ρ : List Addr} {H0 H : Hp} {W : WX} {D : Ends} {σ : St} {Q : β → Hp → Prop} {r : Option (Res α)} {k : α → Store → Option (Res Flw)}
    (o : OuS G r0 H0 W ρ H D (bnd r k)) (x : Ext r0 ρ H0 H)
    (go : ∀ a L1 ρ1 H1 b, r = some (.ok a L1) → Ext ρ ρ1 H H1 → Rst G ρ1 L1 H1 → R H ρ1 H1 a b → OuS G r0 H0 W ρ1 H1 D (k a L1) → Q b H1) : Ou G R W ρ σ H Q r := by
  match r, o with
  | none, o => exact o
  | some (.err y L1), o =>
    exact fun ρ' H' cls d e t z => (show ∀ ρ' H' σ' cls d, Ext r0 ρ' H0 H' → Rst G ρ' L1 H' → XRep G ρ' H' y cls d → W cls d σ' H' from o) ρ' H' σ cls d (x.trans e) t z
  | some (.ok a L1), o =>
    exact fun ρ1 H1 b e t q => go a L1 ρ1 H1 b rfl e t q (OuS.ext (show OuS G r0 H0 W ρ H D (k a L1) from o) e.toStb)
theorem tS.first {α β : Type} {G : Gx} {R : RT α β} {r0 : List Addr} {H0 : Hp} {W : WX} {f : FF α} {k : Slots → α → Store → Option (Res Flw)} {D : Ends} {σ : St} {H : Hp} {Q : β → Hp → Prop}
    (h : tS G r0 H0 W (fun s L => bnd (f s L) (k s)) D σ H)
    (go : ∀ ρ (L : Store) s a L1 ρ1 H1 b, RR G r0 H0 ρ L s σ H → Ext ρ ρ1 H H1 → Rst G ρ1 L1 H1 → R H ρ1 H1 a b → OuS G r0 H0 W ρ1 H1 D (k s a L1) → Q b H1) : tOf G R r0 H0 W f σ H Q := by
  obtain ⟨ρ, L, s, r, o⟩ := h
  exact ⟨ρ, L, s, r, OuS.bind o r.ext fun a L1 ρ1 H1 b _ e t q o' => go ρ L s a L1 ρ1 H1 b r e t q o'⟩
def ES (X : Cx) (c : FC) (e : Stmt) (f : SF) : Prop := PS X e (tS (gx X c.kt) c.r0 c.H0 c.W f)
def ESs (X : Cx) (c : FC) (es : List Stmt) (f : SF) : Prop := PSs X es (tS (gx X c.kt) c.r0 c.H0 c.W f)

/-! ### blocks -/
def sNx : SF := fun s L => some (.ok (.nx s) L)
def sSeq (f g : SF) : SF := fun s L => match f s L with
  | some (.ok (.nx s1) L1) => g s1 L1
  | r => r
section
variable {X : Cx} {c : FC} {e v : Expr} {st : Stmt} {sts : List Stmt} {f : EF} {g h : SF} {fc : CF} {p : BF} {pos pos' : Pos}
theorem ess_nil : ESs X c [] sNx := pss_imp pss_nil fun D σ H q => by
  obtain ⟨ρ, L, s, r, o⟩ := q
  exact o ρ H σ Stb.refl r
theorem seq_read {G : Gx} {r0 : List Addr} {H0 : Hp} {W : WX} {D : Ends} {σ : St} {H : Hp} (q : tS G r0 H0 W (sSeq g h) D σ H) : tSeq (tS G r0 H0 W g) (tS G r0 H0 W h) D σ H := by
  obtain ⟨ρ, L, s, r, o⟩ := q
  refine ⟨ρ, L, s, r, ?_⟩
  unfold sSeq at o
  match hg : g s L, o with
  | some (.ok (.nx s1) L1), o => exact fun ρ' H' σ' e R => ⟨ρ', L1, s1, R, OuS.ext o e⟩
  | some (.ok (.rt v) L1), o => exact o
  | some (.ok (.bk v) L1), o => exact o
  | some (.ok (.ct v) L1), o => exact o
  | some (.err v L1), o => exact o
  | none, o => exact o.elim
theorem ess_cons (h1 : ES X c st g) (h2 : ESs X c sts h) : ESs X c (st :: sts) (sSeq g h) := pss_imp (pss_cons h1 h2) fun _ _ _ q => seq_read q
theorem ess_one (h1 : ES X c st g) : ESs X c [st] g := pss_one h1
def sPass : SF := sNx
theorem es_pass : ES X c (.Pass pos) sPass := ps_imp ps_pass fun D σ H q => by
  obtain ⟨ρ, L, s, r, o⟩ := q
  exact o ρ H σ Stb.refl r
def sCt : SF := fun s L => some (.ok (.ct s) L)
theorem es_continue : ES X c (.Continue pos) sCt := ps_imp ps_continue fun D σ H q => by
  obtain ⟨ρ, L, s, r, o⟩ := q
  exact o ρ H σ Stb.refl r
def sRet (f : EF) : SF := fun s L => bnd (f s L) fun v L1 => some (.ok (.rt v) L1)
theorem es_ret (he : EV X c e f) : ES X c (.Return (some e) pos) (sRet f) := ps_imp (ps_ret he) fun D σ H q => by
  refine tS.first (R := RE _) (k := fun s v L1 => some (.ok (.rt v) L1)) q fun ρ L s v L1 ρ1 H1 u r e1 t1 q1 o => ?_
  exact o ρ1 H1 u (r.ext.trans e1) t1 q1
def sRetN : SF := fun s L => some (.ok (.rt .non) L)
theorem es_retN : ES X c (.Return none pos) sRetN := ps_imp ps_retN fun D σ H q => by
  obtain ⟨ρ, L, s, r, o⟩ := q
  exact o ρ H _ r.ext r.st rfl
def sIf (p : BF) (g h : SF) : SF := fun s L => bnd (p s L) fun k L1 => if k = true then g s L1 else h s L1
theorem es_if {t : Expr} {a b : List Stmt} (ht : TV X c t p) (ha : ESs X c a g) (hb : ESs X c b h) : ES X c (.If t a b pos) (sIf p g h) := ps_imp (ps_if ht ha hb) fun D σ H q => by
  refine tS.first (R := RB) (k := fun s k L1 => if k = true then g s L1 else h s L1) q fun ρ L s k L1 ρ1 H1 u r e1 t1 q1 o => ?_
  obtain rfl : k = u := q1
  cases k with
  | true => rw [if_pos rfl] at o ⊢; exact ⟨ρ1, L1, s, r.go e1 t1, o⟩
  | false => rw [if_neg Bool.false_ne_true] at o ⊢; exact ⟨ρ1, L1, s, r.go e1 t1, o⟩
def sDrop (f : EF) : SF := fun s L => bnd (f s L) fun _ L1 => some (.ok (.nx s) L1)
theorem es_expr (he : EV X c e f) (hs : swapsWith e none pos.line X.env = pure false := by rfl) : ES X c (.Expr e pos) (sDrop f) := ps_imp (ps_expr he hs) fun D σ H q => by
  refine tS.first (R := RE _) (k := fun s v L1 => some (.ok (.nx s) L1)) q fun ρ L s v L1 ρ1 H1 u r e1 t1 q1 o => ?_
  exact o ρ1 H1 σ Stb.refl (r.go e1 t1)

/-! ### assignments -/
def sSet (i : Nat) (f : EF) : SF := fun s L => bnd (f s L) fun v L1 => some (.ok (.nx (s.set i (.val v))) L1)
theorem es_set {i : Nat} {x : Str} (hN : X.N.Nodup) (hi : X.N[i]? = some x) (hx : Loc X.env.scope x) (he : EV X c e f) (hs : swapsWith e (some (.Name x pos')) pos.line X.env = pure false := by rfl) (hf : X.fn x = true ∨ X.env.scope.names.lookup x = some .local := by first | exact .inl rfl | exact .inr rfl | assumption) :
    ES X c (.Assign [.Name x pos'] e pos) (sSet i f) := ps_imp (ps_set hN hi hx he hs hf) fun D σ H q => by
  refine tS.first (R := RE _) (k := fun s v L1 => some (.ok (.nx (s.set i (.val v))) L1)) q fun ρ L s v L1 ρ1 H1 u r e1 t1 q1 o => ?_
  exact o ρ1 H1 _ Stb.refl ((r.go e1 t1).set q1)
def sOwn (i : Nat) (fc : CF) : SF := fun s L => bnd (fc s L) fun w L1 => some (.ok (.nx (s.set i (.own w))) L1)
theorem es_own {i : Nat} {x : Str} (hN : X.N.Nodup) (hi : X.N[i]? = some x) (hx : Loc X.env.scope x) (he : NV X c e fc) (hs : swapsWith e (some (.Name x pos')) pos.line X.env = pure false := by rfl) (hf : X.fn x = true ∨ X.env.scope.names.lookup x = some .local := by first | exact .inl rfl | exact .inr rfl | assumption) :
    ES X c (.Assign [.Name x pos'] e pos) (sOwn i fc) := ps_imp (ps_set hN hi hx he hs hf) fun D σ H q => by
  refine tS.first (R := RN _) (k := fun s v L1 => some (.ok (.nx (s.set i (.own v))) L1)) q fun ρ L s v L1 ρ1 H1 u r e1 t1 q1 o => ?_
  exact o ρ1 H1 _ Stb.refl (r.ownNew e1 t1 q1 i)
/-- name = [..] of a line, the name a local: its own object -/
theorem es_lc {raw : Bool} {i : Nat} {y : Str} {py : Pos} {elt tg iter : Expr} {ifs : List Expr} {scope : Scope} {own : List (Str × Nat)} {spos : Pos} {fi : AF} {t : TGF} {ix : List Nat} {g : EF} (hc : X.calm = true) (hN : X.N.Nodup) (hy : X.N[i]? = some y) (hyl : X.env.scope.names.lookup y = some .local)
    (hsw : swapsWith (.ListComp elt [⟨tg, iter, ifs, 0⟩] scope pos) (some (.Name y py)) spos.line X.env = pure true) (hi : IV X c raw tg iter fi) (ok : BlkOk X.N X.env.scope scope own)
    (hg : ∀ (s : Shared) (H : Hp) (C : Addr) (cl : List (Str × Addr)) (fp : List Addr), GV (X.blk s H scope (compEnvC scope cl C X.env) fp) c raw tg t ix)
    (ht : ∀ (s : Shared) (H : Hp) (C : Addr) (cl : List (Str × Addr)) (fp : List Addr), TVs (X.blk s H scope (compEnvC scope cl C X.env) fp) c.nox ifs p)
    (he : ∀ (s : Shared) (H : Hp) (C : Addr) (cl : List (Str × Addr)) (fp : List Addr), EV (X.blk s H scope (compEnvC scope cl C X.env) fp) c.nox elt g)
    (hix : ∀ j ∈ ix, j ∈ own.map (·.2) := by decide) (hs : ∀ x, foldedSetIterable iter X.env x = pure x := by intro _; rfl) :
    ES X c (.Assign [.Name y py] (.ListComp elt [⟨tg, iter, ifs, 0⟩] scope pos) spos) (sOwn i (nComp fi t p g (own.map (·.2)))) := by
  refine ps_imp (ps_setLc (g := gOf (gx X c.kt) raw c.r0 c.H0 t ix) (tt := tOf (gx X c.kt) RB c.r0 c.H0 (fun _ _ _ _ => False) p) (te := tOf (gx X c.kt) (RE (gx X c.kt)) c.r0 c.H0 (fun _ _ _ _ => False) g) hc hN hy hyl hsw hi ok hg ht he hs) fun D σ H q => ?_
  refine comp_read (c := c) hix ?_
  refine tS.first (R := RN _) (k := fun s v L1 => some (.ok (.nx (s.set i (.own v))) L1)) q fun ρ L s v L1 ρ1 H1 u r e1 t1 q1 o => ?_
  exact o ρ1 H1 _ Stb.refl (r.ownNew e1 t1 q1 i)
def sAsg (f : EF) (t : TGF) : SF := fun s L => bnd (f s L) fun v L1 => (t v s).map fun s1 => .ok (.nx s1) L1
theorem es_asg {tg : Expr} {t : TGF} {ix : List Nat} (he : EV X c e f) (hg : GV X c false tg t ix) (hs : swapsWithSole [tg] e pos.line X.env = pure false := by rfl) (hw : swappedStores [tg] e X.env = pure none := by rfl)
    (h1 : (assignEach [tg] X.env).map (·.2) = [assign tg X.env] := by rfl) : ES X c (.Assign [tg] e pos) (sAsg f t) := ps_imp (ps_asg he hg hs hw h1) fun D σ H q => by
  refine tS.first (R := RE _) (k := fun s v L1 => (t v s).map fun s1 => Res.ok (.nx s1) L1) q fun ρ L s v L1 ρ1 H1 u r e1 t1 q1 o => ?_
  cases ht : t v s with
  | none => rw [ht] at o; exact o.elim
  | some s1 =>
    rw [ht] at o
    exact ⟨ρ1, L1, s, v, s1, r.go e1 t1, .inl q1, ht, fun σ' R' _ _ => o ρ1 H1 σ' Stb.refl R'⟩
/-- a, b = x, y: plain local names -/
def sPar (i j : Nat) (f g : EF) : SF := fun s L => bnd (f s L) fun v L1 => bnd (g s L1) fun w L2 => some (.ok (.nx ((s.set i (.val v)).set j (.val w))) L2)
theorem es_par {i j : Nat} {x y : Str} {a b : Expr} {f g : EF} {px py pt : Pos} {kt k2 pt2} (hc : X.calm = true) (hN : X.N.Nodup) (hi : X.N[i]? = some x) (hj : X.N[j]? = some y) (hij : i ≠ j)
    (hx : X.env.scope.names.lookup x = some .local) (hy : X.env.scope.names.lookup y = some .local) (ha : EV X c a f) (hb : EV X c b g)
    (hw : swappedStores [.Tuple [.Name x px, .Name y py] kt pt] (.Tuple [a, b] k2 pt2) X.env = pure (some [x, y]))
    (hs : swapsWithSole [.Tuple [.Name x px, .Name y py] kt pt] (.Tuple [a, b] k2 pt2) pos.line X.env = pure false := by rfl) (he : starEach (a :: [b]) X.env = (false, eval a X.env) :: starEach [b] X.env := by rfl) (he' : starEach [b] X.env = (false, eval b X.env) :: starEach [] X.env := by rfl) :
    ES X c (.Assign [.Tuple [.Name x px, .Name y py] kt pt] (.Tuple [a, b] k2 pt2) pos) (sPar i j f g) := ps_imp (ps_par hc hN hi hj hij hx hy (pa_cons ha (pa_cons hb pa_nil he') he) hw hs) fun D σ H q => by
  refine tS.first (R := RE _) (k := fun s v L1 => bnd (g s L1) fun w L2 => some (.ok (.nx ((s.set i (.val v)).set j (.val w))) L2)) q fun ρ L s v L1 ρ1 H1 u r e1 t1 q1 o => ?_
  refine ⟨ρ1, L1, s, r.go e1 t1, OuS.bind (R := RE _) o (r.ext.trans e1) fun w L2 ρ2 H2 u2 _ e2 t2 q2 o2 => ⟨u, u2, rfl, ?_⟩⟩
  exact o2 ρ2 H2 _ Stb.refl ((((r.go e1 t1).go e2 t2).set (Rep.mono e2.toStb q1)).set q2)
end
end Fx

set_option Elab.async false
set_option linter.all false
set_option maxRecDepth 100000
set_option maxHeartbeats 1000000
/-! Fx part 11: objects changed; loops. -/
namespace Fx
open PySem L2

/-! ### a method that changes its object -/
def MutOk (G : Gx) (m : Cell → List PV → Option Cell) (r : V → List V → Hp → VK → Prop) : Prop := ∀ ρ H p c c' xs vs Q, CRep G ρ H p c → Reps G ρ H xs vs → m c xs = some c' →
  (∀ v u, URep G ρ H c' u → Q v (upd H p u)) → r (.ref p) vs H Q
def mAppend : Cell → List PV → Option Cell
  | .lst xs, [x] => if xs.length < sizeLine then some (.lst (xs ++ [x])) else none
  | _, _ => none
def mPop : Cell → List PV → Option Cell
  | .lst xs, [.int i] => if -(2 ^ 63) ≤ i ∧ i < 2 ^ 63 then match ixN xs.length i with
    | some j => some (.lst (xs.eraseIdx j))
    | none => none else none
  | _, _ => none
def mInsert : Cell → List PV → Option Cell
  | .lst xs, [.int i, x] => if 0 ≤ i ∧ i < 2 ^ 63 ∧ xs.length < sizeLine then some (.lst (xs.take i.toNat ++ [x] ++ xs.drop i.toNat)) else none
  | _, _ => none
section
variable {G : Gx}
theorem mo_append : MutOk G mAppend rAppend := by
  intro ρ H p c c' xs vs Q hc hr hm k
  unfold mAppend at hm
  split at hm
  · rename_i ys x
    split at hm
    · rename_i hz
      cases hm
      obtain ⟨ws, h1, h2⟩ := hc
      obtain ⟨v, r, rfl, h3, h4⟩ := hr
      obtain rfl : r = [] := h4
      exact ⟨p, ws, v, rfl, rfl, h1, by rw [← h2.length]; exact hz, k _ _ ⟨_, rfl, h2.append (.cons h3 .nil)⟩⟩
    · cases hm
  · cases hm
theorem Reps.eraseIdx {ρ : List Addr} {H : Hp} : ∀ {xs : List PV} {vs : List V} (i : Nat), Reps G ρ H xs vs → Reps G ρ H (xs.eraseIdx i) (vs.eraseIdx i)
  | [], vs, i, h => by rw [show vs = [] from h]; simpa using Reps.nil
  | x :: xs, vs, 0, h => by
    obtain ⟨v, r, rfl, h1, h2⟩ := h
    simpa using h2
  | x :: xs, vs, i + 1, h => by
    obtain ⟨v, r, rfl, h1, h2⟩ := h
    simpa using Reps.cons h1 (Reps.eraseIdx i h2)
theorem mo_pop : MutOk G mPop rPopAt := by
  intro ρ H p c c' xs vs Q hc hr hm k
  unfold mPop at hm
  split at hm
  · rename_i ys i
    split at hm
    · rename_i hb
      cases hi : ixN ys.length i with
      | none => rw [hi] at hm; cases hm
      | some j =>
        rw [hi] at hm
        cases hm
        obtain ⟨ws, h1, h2⟩ := hc
        obtain ⟨v, r, rfl, h3, h4⟩ := hr
        obtain rfl : r = [] := h4
        obtain rfl : v = .int i := h3
        rw [h2.length] at hi
        obtain ⟨k1, k2, k3, k4⟩ := ixN_seq hi
        exact ⟨p, ws, i, j, ws[j], rfl, rfl, h1, hb.1, hb.2, k1, by simp [k2], k _ _ ⟨_, rfl, h2.eraseIdx j⟩⟩
    · cases hm
  · cases hm
theorem mo_insert : MutOk G mInsert (fun x vs H Q => ∃ (l : Addr) (xs : List V) (i : Int) (y : V), x = .ref l ∧ vs = [.int i, y] ∧ H l = some (.lst xs) ∧ xs.length < sizeLine ∧ 0 ≤ i ∧ i < 2 ^ 63 ∧
    Q .non (upd H l (.lst (xs.take i.toNat ++ [y] ++ xs.drop i.toNat)))) := by
  intro ρ H p c c' xs vs Q hc hr hm k
  unfold mInsert at hm
  split at hm
  · rename_i ys i x
    split at hm
    · rename_i hz
      cases hm
      obtain ⟨ws, h1, h2⟩ := hc
      obtain ⟨v, r, rfl, h3, v2, r2, rfl, h4, h5⟩ := hr
      obtain rfl : r2 = [] := h5
      obtain rfl : v = .int i := h3
      exact ⟨p, ws, i, v2, rfl, rfl, h1, by rw [← h2.length]; exact hz.2.2, hz.1, hz.2.1, k _ _ ⟨_, rfl, ((h2.take _).append (.cons h4 .nil)).append (h2.drop _)⟩⟩
    · cases hm
  · cases hm
end
/-- found.m(..), found of one's own -/
def isLst : Cell → Bool
  | .lst _ => true
  | _ => false
def sOwnM (m : Cell → List PV → Option Cell) (i : Nat) (fa : AF) : SF := fun s L => match s[i]? with
  | some (.own c) => if isLst c = true then bnd (fa s L) fun xs L1 => (m c xs).map fun c' => .ok (.nx (s.set i (.own c'))) L1 else none
  | _ => none
theorem OuS.own {G : Gx} {r0 ρ : List Addr} {H0 H : Hp} {W : WX} {D : Ends} {s : Slots} {σ : St} {L : Store} {i : Nat} {c : Cell} {x : Option Cell} (r : RR G r0 H0 ρ L s σ H) (e : s[i]? = some (.own c)) {p : Addr} (hp : σ[i]? = some (some (.ref p)))
    (o : OuS G r0 H0 W ρ H D (x.map fun c' => .ok (.nx (s.set i (.own c'))) L)) : ∃ c', x = some c' ∧ ∀ u, URep G ρ H c' u → D.nx σ (upd H p u) := by
  cases x with
  | none => exact o.elim
  | some c' =>
    refine ⟨c', rfl, fun u hu => ?_⟩
    obtain ⟨st, R⟩ := r.ownSet e hp hu
    exact o ρ _ σ st R
theorem own_slot {G : Gx} {r0 ρ : List Addr} {H0 H : Hp} {L : Store} {s : Slots} {σ : St} (q : RR G r0 H0 ρ L s σ H) {i : Nat} {c : Cell} (e : s[i]? = some (.own c)) : ∃ p, σ[i]? = some (some (.ref p)) ∧ CRep G ρ H p c ∧ p ∉ ρ := by
  obtain ⟨β, z⟩ := q.sl
  obtain ⟨h1, h2, h3, _⟩ := z.own i c e
  exact ⟨_, h1, h2, h3⟩
section
variable {X : Cx} {c : FC} {e e1 e2 v : Expr} {es : List Expr} {fa : AF} {f g : EF} {pos pos' p apos cpos : Pos} {id : String} {name x : Str} {r : V → List V → Hp → VK → Prop} {m : Cell → List PV → Option Cell} {i : Nat}
theorem es_ownM (mo : MutOk (gx X c.kt) m r) (slot : Slot "list" name id) (hty : typeOf (.builtin id) = pure (.type "method_descriptor")) (hm : MtR X id r)
    (hN : X.N[i]? = some x) (hv : Vis X.env.scope x) (ha : AV X c (e1 :: es) fa)
    (hbase : attributeBase (.Name x p) name X.env (eval (.Name x p) X.env) = eval (.Name x p) X.env := by rfl)
    (hfew : ((backTo cpos (starEach (e1 :: es) X.env)).all (fun x => !x.1) && (backToKw cpos (keywordEach [] X.env)).all (fun x => x.1.isSome)
      && decide ((e1 :: es).length + ([] : List Keyword).length + (if ([] : List Keyword).isEmpty then 0 else 1) < 30)) = true := by rfl)
    (hline : (apos.endLine == cpos.line) = true := by rfl) (hs : starEach (e1 :: es) X.env = (false, eval e1 X.env) :: starEach es X.env := by rfl) (hplain : (backTo cpos (starEach es X.env)).any (·.1) = false := by rfl)
    (hsw : swapsWith (.Call (.Attribute (.Name x p) name apos) (e1 :: es) [] cpos) none pos.line X.env = pure false := by rfl) (hd : (x == ("__debug__" : Str)) = false := by decide) (hcd : (x == ("__classdict__" : Str)) = false := by decide) :
    ES X c (.Expr (.Call (.Attribute (.Name x p) name apos) (e1 :: es) [] cpos) pos) (sOwnM m i fa) := by
  refine ps_imp (ps_expr (pe_bm PySem.F.plainAttrs_list slot hty hm (pe_var hN hv hd hcd) ha hbase hfew hline hs hplain) hsw) fun D σ H q => ?_
  obtain ⟨ρ, L, s, R, o⟩ := q
  unfold sOwnM at o
  split at o
  · rename_i cc hc
    split at o
    · rename_i hl
      obtain ⟨p, hp, cr, np⟩ := own_slot R hc
      have hty : tyV X.K "list" (.ref p) H := by
        cases cc with
        | lst xs => obtain ⟨vs, h1, _⟩ := cr; exact .inl ⟨rfl, vs, SqL.of h1⟩
        | _ => cases hl
      refine ⟨.ref p, hp, hty, ρ, L, s, R, OuS.bind (R := RA _) o R.ext fun xs L1 ρ1 H1 vs _ e1 t1 q1 o1 => ?_⟩
      have R1 := R.go e1 t1
      obtain ⟨c', hm', k⟩ := OuS.own R1 hc hp o1
      obtain ⟨p', hp', cr1, _⟩ := own_slot R1 hc
      rw [hp] at hp'; cases hp'
      exact mo ρ1 H1 p cc c' xs vs _ cr1 q1 hm' fun _ u hu => k u hu
    · exact o.elim
  · exact o.elim
theorem es_append (hN : X.N[i]? = some x) (hv : Vis X.env.scope x) (ha : EV X c e1 f)
    (hbase : attributeBase (.Name x p) "append" X.env (eval (.Name x p) X.env) = eval (.Name x p) X.env := by rfl)
    (hfew : ((backTo cpos (starEach (e1 :: []) X.env)).all (fun x => !x.1) && (backToKw cpos (keywordEach [] X.env)).all (fun x => x.1.isSome)
      && decide ((e1 :: []).length + ([] : List Keyword).length + (if ([] : List Keyword).isEmpty then 0 else 1) < 30)) = true := by rfl)
    (hline : (apos.endLine == cpos.line) = true := by rfl) (hs : starEach (e1 :: []) X.env = (false, eval e1 X.env) :: starEach [] X.env := by rfl)
    (hsw : swapsWith (.Call (.Attribute (.Name x p) "append" apos) (e1 :: []) [] cpos) none pos.line X.env = pure false := by rfl) (hd : (x == ("__debug__" : Str)) = false := by decide) (hcd : (x == ("__classdict__" : Str)) = false := by decide) :
    ES X c (.Expr (.Call (.Attribute (.Name x p) "append" apos) [e1] [] cpos) pos) (sOwnM mAppend i (aCons f aNil)) :=
  es_ownM mo_append PySem.F.slot_list_append PySem.F.type_list_append mt_append hN hv (av_cons ha av_nil hs) hbase hfew hline hs rfl hsw hd hcd
theorem es_pop (hN : X.N[i]? = some x) (hv : Vis X.env.scope x) (ha : EV X c e1 f)
    (hbase : attributeBase (.Name x p) "pop" X.env (eval (.Name x p) X.env) = eval (.Name x p) X.env := by rfl)
    (hfew : ((backTo cpos (starEach (e1 :: []) X.env)).all (fun x => !x.1) && (backToKw cpos (keywordEach [] X.env)).all (fun x => x.1.isSome)
      && decide ((e1 :: []).length + ([] : List Keyword).length + (if ([] : List Keyword).isEmpty then 0 else 1) < 30)) = true := by rfl)
    (hline : (apos.endLine == cpos.line) = true := by rfl) (hs : starEach (e1 :: []) X.env = (false, eval e1 X.env) :: starEach [] X.env := by rfl)
    (hsw : swapsWith (.Call (.Attribute (.Name x p) "pop" apos) (e1 :: []) [] cpos) none pos.line X.env = pure false := by rfl) (hd : (x == ("__debug__" : Str)) = false := by decide) (hcd : (x == ("__classdict__" : Str)) = false := by decide) :
    ES X c (.Expr (.Call (.Attribute (.Name x p) "pop" apos) [e1] [] cpos) pos) (sOwnM mPop i (aCons f aNil)) :=
  es_ownM mo_pop PySem.F.slot_list_pop PySem.F.type_list_pop mt_popAt hN hv (av_cons ha av_nil hs) hbase hfew hline hs rfl hsw hd hcd
theorem es_insert (hN : X.N[i]? = some x) (hv : Vis X.env.scope x) (ha : EV X c e1 f) (hb : EV X c e2 g)
    (hbase : attributeBase (.Name x p) "insert" X.env (eval (.Name x p) X.env) = eval (.Name x p) X.env := by rfl)
    (hfew : ((backTo cpos (starEach (e1 :: [e2]) X.env)).all (fun x => !x.1) && (backToKw cpos (keywordEach [] X.env)).all (fun x => x.1.isSome)
      && decide ((e1 :: [e2]).length + ([] : List Keyword).length + (if ([] : List Keyword).isEmpty then 0 else 1) < 30)) = true := by rfl)
    (hline : (apos.endLine == cpos.line) = true := by rfl) (hs : starEach (e1 :: [e2]) X.env = (false, eval e1 X.env) :: starEach [e2] X.env := by rfl) (hs2 : starEach (e2 :: []) X.env = (false, eval e2 X.env) :: starEach [] X.env := by rfl)
    (hsw : swapsWith (.Call (.Attribute (.Name x p) "insert" apos) (e1 :: [e2]) [] cpos) none pos.line X.env = pure false := by rfl) (hd : (x == ("__debug__" : Str)) = false := by decide) (hcd : (x == ("__classdict__" : Str)) = false := by decide) :
    ES X c (.Expr (.Call (.Attribute (.Name x p) "insert" apos) [e1, e2] [] cpos) pos) (sOwnM mInsert i (aCons f (aCons g aNil))) :=
  es_ownM mo_insert PySem.F.slot_list_insert PySem.F.type_list_insert mt_insert hN hv (av_cons ha (av_cons hb av_nil hs2) hs) hbase hfew hline hs (by rw [hs2]; rfl) hsw hd hcd

/-! ### o[k] = v -/
def setC (kt : Bool) : Cell → PV → PV → Option Cell
  | .lst xs, .int k, x => (ixN xs.length k).map fun j => .lst (xs.set j x)
  | .dk kvs, k, x => if kvs.length < sizeLine then (keyOf k).map fun k => .dk (put kvs k x) else none
  | .dt kvs, .tup ks, x => if (kt = false ∧ ks.isEmpty = false) ∧ kvs.length < sizeLine then (keysOf ks).map fun k => .dt (put kvs k x) else none
  | _, _, _ => none
def rSetD : V → V → V → Hp → (Hp → Prop) → Prop := fun o i v H Q => ∃ a H', o = .ref a ∧ DPut H a i v H' ∧ Q H'
theorem set_dict (hu : X.A.units + 1 < cLine) : PSet X rSetD := by
  intro pins s σ H o i v ov iv u Q I ro ri rv h
  obtain ⟨a, H', rfl, g, q⟩ := h
  obtain rfl : ov = .ref a := ro
  exact d_setItem hu I g ri rv fun s' I' => ⟨H', I', q⟩
theorem PSet.or {t t' : TSet} (h : PSet X t) (h' : PSet X t') : PSet X (fun o i v H Q => t o i v H Q ∨ t' o i v H Q) := by
  intro pins s σ H o i v ov iv u Q I ro ri rv q
  rcases q with q | q
  · exact h pins s σ H o i v ov iv u Q I ro ri rv q
  · exact h' pins s σ H o i v ov iv u Q I ro ri rv q
abbrev rSetA : TSet := fun o i v H Q => rSetL o i v H Q ∨ rSetD o i v H Q
theorem set_of {G : Gx} {ρ : List Addr} {H : Hp} {p : Addr} {cc c' : Cell} {k x : PV} {kv xv : V} {Q : Hp → Prop} (cr : CRep G ρ H p cc) (hk : Rep G ρ H k kv) (hx : Rep G ρ H x xv) (e : setC G.kt cc k x = some c') (q : ∀ u, URep G ρ H c' u → Q (upd H p u)) : rSetA (.ref p) kv xv H Q := by
  cases cc with
  | lst xs =>
    cases k with
    | int j =>
      obtain ⟨vs, h1, h2⟩ := cr
      have e : (ixN xs.length j).map (fun j => Cell.lst (xs.set j x)) = some c' := e
      cases hi : ixN xs.length j with
      | none => rw [hi] at e; cases e
      | some n =>
        rw [hi] at e
        cases e
        obtain rfl : kv = .int j := hk
        exact .inl ⟨p, vs, j, n, rfl, rfl, h1, by rw [← h2.length]; exact hi, q _ ⟨_, rfl, h2.set n hx⟩⟩
    | _ => cases e
  | dk kvs =>
    obtain ⟨l, h1, h2⟩ := cr
    have hd : DRep G ρ H kvs l := h2
    have e : (if kvs.length < sizeLine then (keyOf k).map fun k => Cell.dk (put kvs k x) else none) = some c' := e
    split at e
    · rename_i hz
      cases hk' : keyOf k with
      | none => rw [hk'] at e; cases e
      | some kk =>
        rw [hk'] at e
        cases e
        exact .inr ⟨p, _, rfl, .inl ⟨l, kk, h1, keyOf_rep hk hk', by rw [← hd.length]; exact hz, rfl⟩, q _ ⟨_, rfl, hd.put hx⟩⟩
    · cases e
  | dt kvs =>
    cases k with
    | tup ks =>
      obtain ⟨l, h1, h2⟩ := cr
      have hd : DRep G ρ H kvs l := h2
      have e : (if (G.kt = false ∧ ks.isEmpty = false) ∧ kvs.length < sizeLine then (keysOf ks).map fun k => Cell.dt (put kvs k x) else none) = some c' := e
      split at e
      · rename_i hz
        cases hk' : keysOf ks with
        | none => rw [hk'] at e; cases e
        | some kk =>
          rw [hk'] at e
          cases e
          obtain ⟨b, ws, rfl, hb, hs⟩ := hk
          have hb := keys_plain hz.1.1 hz.1.2 hk' hs hb
          have := keysOf_rep hs hk'
          subst this
          exact .inr ⟨p, _, rfl, .inr ⟨l, kk, b, h1, rfl, hb, by rw [← hd.length]; exact hz.2, rfl⟩, q _ ⟨_, rfl, hd.put hx⟩⟩
      · cases e
    | _ => cases e
  | ins C fs => cases e
/-- found[k] = v, found of one's own -/
def sPutO (kt : Bool) (i : Nat) (fk fv : EF) : SF := fun s L => bnd (fv s L) fun v L1 => match s[i]? with
  | some (.own c) => bnd (fk s L1) fun k L2 => (setC kt c k v).map fun c' => .ok (.nx (s.set i (.own c'))) L2
  | _ => none
theorem es_putO {kt : Bool} {k : Expr} {fk fv : EF} {np : Pos} (hu : X.A.units + 1 < cLine) (hkt : c.kt = kt) (hN : X.N[i]? = some x) (hv : Vis X.env.scope x) (hk : EV X c k fk) (hx : EV X c v fv)
    (ha : ∀ v, assign (.Subscript (.Name x np) k pos') X.env v = (do
      let ov ← holding [v] (eval (.Name x np) X.env)
      let iv ← holding [v, ov] (eval k X.env)
      standAt pos'
      holding [v, ov, iv] (setItem ov iv v)
      release [v, ov, iv] []) := by intro _; rfl)
    (hs : swapsWithSole [.Subscript (.Name x np) k pos'] v pos.line X.env = pure false := by rfl) (hw : swappedStores [.Subscript (.Name x np) k pos'] v X.env = pure none := by rfl)
    (h1 : (assignEach [.Subscript (.Name x np) k pos'] X.env).map (·.2) = [assign (.Subscript (.Name x np) k pos') X.env] := by rfl) (hd : (x == ("__debug__" : Str)) = false := by decide) (hcd : (x == ("__classdict__" : Str)) = false := by decide) :
    ES X c (.Assign [.Subscript (.Name x np) k pos'] v pos) (sPutO kt i fk fv) := by
  subst hkt
  refine ps_imp (ps_asg hx (pg_sub (pe_var hN hv hd hcd) hk (Fx.PSet.or set_list (set_dict hu)) ha) hs hw h1) fun D σ H q => ?_
  refine tS.first (R := RE _) (k := fun s v L1 => match s[i]? with
    | some (.own cc) => bnd (fk s L1) fun k L2 => (setC c.kt cc k v).map fun c' => .ok (.nx (s.set i (.own c'))) L2
    | _ => none) q fun ρ L s w L1 ρ1 H1 u R e1 t1 q1 o => ?_
  split at o
  · rename_i cc hc
    have R1 := R.go e1 t1
    obtain ⟨p, hp, cr, np⟩ := own_slot R1 hc
    refine ⟨.ref p, hp, ρ1, L1, s, R1, OuS.bind (R := RE _) o R1.ext fun kk L2 ρ2 H2 kv _ e2 t2 q2 o2 => ?_⟩
    have R2 := R1.go e2 t2
    obtain ⟨c', hm', kk'⟩ := OuS.own R2 hc hp o2
    obtain ⟨p', hp', cr2, _⟩ := own_slot R2 hc
    rw [hp] at hp'; cases hp'
    exact set_of cr2 q2 (Rep.mono e2.toStb q1) hm' fun u hu => kk' u hu
  · exact o.elim
/-- o[k] = v, o an object of the store -/
def sPutL (kt : Bool) (fo fk fv : EF) : SF := fun s L => bnd (fv s L) fun v L1 => bnd (fo s L1) fun o L2 => bnd (fk s L2) fun k L3 => match o with
  | .loc n => match L3[n]? with
    | some c => (setC kt c k v).map fun c' => .ok (.nx s) (L3.set n c')
    | none => none
  | _ => none
theorem es_putL {kt : Bool} {o k : Expr} {fo fk fv : EF} (hu : X.A.units + 1 < cLine) (hkt : c.kt = kt) (ho : EV X c o fo) (hk : EV X c k fk) (hx : EV X c v fv)
    (ha : ∀ v, assign (.Subscript o k pos') X.env v = (do
      let ov ← holding [v] (eval o X.env)
      let iv ← holding [v, ov] (eval k X.env)
      standAt pos'
      holding [v, ov, iv] (setItem ov iv v)
      release [v, ov, iv] []) := by intro _; rfl)
    (hs : swapsWithSole [.Subscript o k pos'] v pos.line X.env = pure false := by rfl) (hw : swappedStores [.Subscript o k pos'] v X.env = pure none := by rfl)
    (h1 : (assignEach [.Subscript o k pos'] X.env).map (·.2) = [assign (.Subscript o k pos') X.env] := by rfl) :
    ES X c (.Assign [.Subscript o k pos'] v pos) (sPutL kt fo fk fv) := by
  subst hkt
  refine ps_imp (ps_asg hx (pg_sub ho hk (Fx.PSet.or set_list (set_dict hu)) ha) hs hw h1) fun D σ H q => ?_
  refine tS.first (R := RE _) (k := fun s v L1 => bnd (fo s L1) fun o L2 => bnd (fk s L2) fun k L3 => match o with
    | .loc n => match L3[n]? with
      | some cc => (setC c.kt cc k v).map fun c' => .ok (.nx s) (L3.set n c')
      | none => none
    | _ => none) q fun ρ L s w L1 ρ1 H1 u R e1 t1 q1 o1 => ?_
  have R1 := R.go e1 t1
  refine ⟨ρ1, L1, s, R1, OuS.bind (R := RE _) o1 R1.ext fun ov L2 ρ2 H2 oo _ e2 t2 q2 o2 => ?_⟩
  have R2 := R1.go e2 t2
  refine ⟨ρ2, L2, s, R2, OuS.bind (R := RE _) o2 R2.ext fun kk L3 ρ3 H3 kv _ e3 t3 q3 o3 => ?_⟩
  have R3 := R2.go e3 t3
  have q2' := Rep.mono e3.toStb q2
  cases ov with
  | loc n =>
    obtain ⟨p, rfl, hp⟩ := q2'
    dsimp only at o3
    split at o3
    · rename_i cc hc
      cases hs : setC c.kt cc kk w with
      | none => rw [hs] at o3; exact o3.elim
      | some c' =>
        rw [hs] at o3
        refine set_of (R3.st.cell n cc p hc hp) q3 (Rep.mono (e2.trans e3).toStb q1) hs fun u hu => ?_
        obtain ⟨st, R4⟩ := R3.locSet hc hp hu
        exact o3 ρ3 _ σ st R4
    · exact o3.elim
  | _ => exact o3.elim

/-! ### an own object becomes a value (where the slot holds one) -/
def sFrz (i : Nat) (h : SF) : SF := fun s L => match s[i]? with
  | some (.own c) => match frzC c with
    | some x => h (s.set i (.val x)) L
    | none => none
  | _ => h s L
theorem ess_frz {sts : List Stmt} {h : SF} (i : Nat) (hs : ESs X c sts h) : ESs X c sts (sFrz i h) := by
  refine ⟨fun pins s σ H D I q => ?_⟩
  obtain ⟨ρ, L, s1, R, o⟩ := q
  unfold sFrz at o
  split at o
  · rename_i cc hc
    split at o
    · rename_i x hx
      obtain ⟨p, u, hp, mu, k⟩ := R.ownFrz hc hx
      obtain ⟨od, I2⟩ := I.lock hp mu
      obtain ⟨st, R2⟩ := k od
      exact hs.run pins s σ _ D I2 ⟨ρ, L, _, R2, OuS.ext o st⟩
    · exact o.elim
  · exact hs.run pins s σ H D I ⟨ρ, L, s1, R, o⟩

/-! ### loops -/
def fLoop (t : TGF) (b : SF) : List PV → SF
  | [], s, L => some (.ok (.nx s) L)
  | x :: r, s, L => match t x s with
    | none => none
    | some s1 => match b s1 L with
      | some (.ok (.nx s2) L2) => fLoop t b r s2 L2
      | some (.ok (.ct s2) L2) => fLoop t b r s2 L2
      | some (.ok (.bk s2) L2) => some (.ok (.nx s2) L2)
      | z => z
def sFor (fi : AF) (t : TGF) (b : SF) : SF := fun s L => bnd (fi s L) fun xs L1 => fLoop t b xs s L1
theorem es_for {raw : Bool} {tg iter : Expr} {body : List Stmt} {fi : AF} {t : TGF} {ix : List Nat} {b : SF} (hp : PassesOwn (model X.prog X.w) X.A X.env X.xe) (hc : X.calm = true) (hi : IV X c raw tg iter fi) (hg : GV X c raw tg t ix) (hb : ESs X c body b)
    (hs : ∀ x, foldedSetIterable iter X.env x = pure x := by intro _; rfl) : ES X c (.For tg iter body [] pos) (sFor fi t b) := by
  refine ps_imp (ps_for hp hc hi hg hb hs) fun D σ H q => ?_
  refine tS.first (R := RI _ _) (k := fun s xs L1 => fLoop t b xs s L1) q fun ρ L s xs L1 ρ1 H1 J R e1 t1 q1 o => ?_
  refine ⟨fun i m σ' H' => m = xs.length - i ∧ i ≤ xs.length ∧ ∃ ρ' L' s', Stb ρ1 ρ' H1 H' ∧ RR (gx X c.kt) c.r0 c.H0 ρ' L' s' σ' H' ∧ OuS (gx X c.kt) c.r0 c.H0 c.W ρ' H' D (fLoop t b (xs.drop i) s' L'), ⟨xs.length, by simp, Nat.zero_le _, ρ1, L1, s, Stb.refl, R.go e1 t1, o⟩, ?_⟩
  rintro i m σ' Hi ⟨rfl, hi, ρ2, L2, s2, st2, R2, o2⟩
  obtain ⟨y1, y2⟩ := q1 i ρ2 Hi st2
  by_cases hlt : i < xs.length
  · obtain ⟨go, yl⟩ := y1 hlt
    refine .inr ⟨go, fun σ' H' => ∃ ρ' L' s', Stb ρ1 ρ' H1 H' ∧ RR (gx X c.kt) c.r0 c.H0 ρ' L' s' σ' H' ∧ OuS (gx X c.kt) c.r0 c.H0 c.W ρ' H' D (fLoop t b (xs.drop (i + 1)) s' L'), fun σ' H' h => ⟨xs.length - (i + 1), by omega, rfl, hlt, h⟩, fun x H' hy => ?_⟩
    obtain ⟨k, rx⟩ := yl x H' hy
    have e3 : Ext ρ2 ρ2 Hi H' := Ext.same k
    have R3 := R2.go e3 (R2.st.same k)
    have hd : xs.drop i = xs[i] :: xs.drop (i + 1) := by rw [List.drop_eq_getElem_cons hlt]
    rw [hd] at o2
    have o3 := OuS.ext o2 e3.toStb
    unfold fLoop at o3
    cases ht : t xs[i] s2 with
    | none => rw [ht] at o3; exact o3.elim
    | some s3 =>
      rw [ht] at o3
      dsimp only at o3
      refine ⟨ρ2, L2, s2, xs[i], s3, R3, rx, ht, fun σ3 R4 _ _ => ⟨ρ2, L2, s3, R4, ?_⟩⟩
      match hbb : b s3 L2, o3 with
      | some (.ok (.nx s4) L4), o3 => exact fun ρ' H'' σ'' st R' => ⟨ρ', L4, s4, (st2.trans e3.toStb).trans st, R', OuS.ext o3 st⟩
      | some (.ok (.ct s4) L4), o3 => exact fun ρ' H'' σ'' st R' => ⟨ρ', L4, s4, (st2.trans e3.toStb).trans st, R', OuS.ext o3 st⟩
      | some (.ok (.bk s4) L4), o3 => exact o3
      | some (.ok (.rt v) L4), o3 => exact o3
      | some (.err x L4), o3 => exact o3
      | none, o3 => exact o3.elim
  · have hi' : i = xs.length := by omega
    subst hi'
    refine .inl ⟨y2 (Nat.le_refl _), ?_⟩
    rw [List.drop_length] at o2
    exact o2 ρ2 Hi σ' Stb.refl R2

def wLoop (p : BF) (b : SF) : Nat → SF
  | 0, _, _ => none
  | n + 1, s, L => match p s L with
    | some (.ok true L1) => match b s L1 with
      | some (.ok (.nx s2) L2) => wLoop p b n s2 L2
      | some (.ok (.ct s2) L2) => wLoop p b n s2 L2
      | some (.ok (.bk s2) L2) => some (.ok (.nx s2) L2)
      | z => z
    | some (.ok false L1) => some (.ok (.nx s) L1)
    | some (.err x L1) => some (.err x L1)
    | none => none
theorem es_while {t : Expr} {body : List Stmt} {p : BF} {b : SF} (n : Nat) (hp : PassesOwn (model X.prog X.w) X.A X.env X.xe) (ht : TV X c t p) (hb : ESs X c body b) : ES X c (.While t body [] pos) (wLoop p b n) := by
  refine ps_imp (ps_while hp ht hb) fun D σ H q => ?_
  obtain ⟨ρ, L, s, R, o⟩ := q
  refine ⟨fun m σ' H' => ∃ ρ' L' s', RR (gx X c.kt) c.r0 c.H0 ρ' L' s' σ' H' ∧ OuS (gx X c.kt) c.r0 c.H0 c.W ρ' H' D (wLoop p b m s' L'), ⟨n, ρ, L, s, R, o⟩, ?_⟩
  rintro m σ' Hi ⟨ρ2, L2, s2, R2, o2⟩
  refine ⟨ρ2, L2, s2, R2, ?_⟩
  cases m with
  | zero => exact o2.elim
  | succ m =>
    unfold wLoop at o2
    match hpp : p s2 L2, o2 with
    | none, o2 => exact o2.elim
    | some (.err x L3), o2 =>
      exact fun ρ' H' cls d e t z => (show ∀ ρ' H' σ' cls d, Ext c.r0 ρ' c.H0 H' → Rst (gx X c.kt) ρ' L3 H' → XRep (gx X c.kt) ρ' H' x cls d → c.W cls d σ' H' from o2) ρ' H' σ' cls d (R2.ext.trans e) t z
    | some (.ok false L3), o2 =>
      intro ρ3 H3 k e3 t3 hk
      obtain rfl : false = k := hk
      rw [if_neg Bool.false_ne_true]
      exact o2 ρ3 H3 σ' e3.toStb (R2.go e3 t3)
    | some (.ok true L3), o2 =>
      intro ρ3 H3 k e3 t3 hk
      obtain rfl : true = k := hk
      rw [if_pos rfl]
      refine ⟨fun σ' H' => ∃ ρ' L' s', RR (gx X c.kt) c.r0 c.H0 ρ' L' s' σ' H' ∧ OuS (gx X c.kt) c.r0 c.H0 c.W ρ' H' D (wLoop p b m s' L'), fun σ' H' h => ⟨m, Nat.lt_succ_self _, h⟩, ρ3, L3, s2, R2.go e3 t3, ?_⟩
      have o3 := OuS.ext o2 e3.toStb
      dsimp only at o3
      match hbb : b s2 L3, o3 with
      | some (.ok (.nx s4) L4), o3 => exact fun ρ' H'' σ'' st R' => ⟨ρ', L4, s4, R', OuS.ext o3 st⟩
      | some (.ok (.ct s4) L4), o3 => exact fun ρ' H'' σ'' st R' => ⟨ρ', L4, s4, R', OuS.ext o3 st⟩
      | some (.ok (.bk s4) L4), o3 => exact o3
      | some (.ok (.rt v) L4), o3 => exact o3
      | some (.err x L4), o3 => exact o3
      | none, o3 => exact o3.elim
end
end Fx

set_option Elab.async false
set_option linter.all false
set_option maxRecDepth 100000
set_option maxHeartbeats 1000000
/-! Fx part 12: defs, their calls, the law's end. -/
namespace Fx
open PySem L2

abbrev DS := List PV → Store → Option (Res PV)
def noE {α : Type} : Option (Res α) → Option (Res α)
  | some (.ok a L) => some (.ok a L)
  | _ => none
def runDef (n : Nat) (b : SF) : DS := fun args L => match b (args.map SV.val ++ List.replicate (n - args.length) SV.no) L with
  | some (.ok (.rt v) L') => some (.ok v L')
  | some (.ok (.nx _) L') => some (.ok .non L')
  | some (.err x L') => some (.err x L')
  | _ => none
def runDef0 (n : Nat) (b : SF) : DS := fun args L => noE (runDef n b args L)
def Safe (g : DS) : Prop := ∀ a L x L', g a L ≠ some (.err x L')
theorem safe_run0 {n : Nat} {b : SF} : Safe (runDef0 n b) := fun a L x L' h => by
  unfold runDef0 at h
  cases e : runDef n b a L with
  | none => rw [e] at h; cases h
  | some r =>
    rw [e] at h
    cases r <;> cases h
theorem safe_none : Safe (fun _ _ => none) := fun _ _ _ _ h => by cases h
/-- what a def keeps: it follows g -/
def spG (G : Gx) (k : Nat) (g : DS) : Sp := fun vs H Q E => ∃ ρ L args, Rst G ρ L H ∧ Reps G ρ H args vs ∧ args.length = k ∧ Ou G (RE G) (fun cls d _ H => E cls d H) ρ [] H Q (g args L)
theorem spG_len {G : Gx} {g : DS} {ps : List Str} : ∀ vs H Q E, spG G ps.length g vs H Q E → vs.length = ps.length := fun vs H Q E ⟨ρ, L, args, _, h, hl, _⟩ => by rw [← h.length, hl]
theorem rr_start {G : Gx} {ρ : List Addr} {L : Store} {H : Hp} {args : List PV} {vs : List V} {N : List Str} (t : Rst G ρ L H) (h : Reps G ρ H args vs) : RR G ρ H ρ L (args.map SV.val ++ List.replicate (N.length - args.length) SV.no) (L2.start N vs) H := by
  have hl := h.length
  have kind : ∀ (i : Nat) (x : SV), (args.map SV.val ++ List.replicate (N.length - args.length) SV.no)[i]? = some x → x = .no ∨ ∃ v, args[i]? = some v ∧ x = .val v := fun i x e => by
    by_cases hi : i < args.length
    · rw [List.getElem?_append_left (by simpa using hi), List.getElem?_map] at e
      cases e2 : args[i]? with
      | none => rw [e2] at e; cases e
      | some v => rw [e2] at e; cases e; exact .inr ⟨v, rfl, rfl⟩
    · rw [List.getElem?_append_right (by simpa using hi), List.getElem?_replicate] at e
      split at e
      · cases e; exact .inl rfl
      · cases e
  refine ⟨t, ⟨fun _ => 0, by unfold L2.start; simp [hl], fun i v e => ?_, fun i c e => ?_, fun i j c d e => ?_⟩, Ext.refl⟩
  · rcases kind i _ e with q | ⟨w, e2, q⟩
    · cases q
    · cases q
      obtain ⟨u, h1, h2⟩ := h.get e2
      refine ⟨u, ?_, h2⟩
      unfold L2.start
      rw [List.getElem?_append_left (by simpa using (List.getElem?_eq_some_iff.mp h1).1), List.getElem?_map, h1]
      rfl
  · rcases kind i _ e with q | ⟨w, e2, q⟩ <;> cases q
  · rcases kind i _ e with q | ⟨w, e2, q⟩ <;> cases q
/-- a def that lets nothing out -/
theorem def_run {X : Cx} {kt : Bool} {N : List Str} {k : Nat} {b : SF} {body : List Stmt} {vs : List V} {H : Hp} {Q : VK} {E : XK} (h : spG (gx X kt) k (runDef0 N.length b) vs H Q E)
    (hb : ∀ c : FC, c.kt = kt → ESs X c body b) : ∃ t, PSs X body t ∧ t { nx := fun _ H' => Q .non H', rt := Q } (L2.start N vs) H := by
  obtain ⟨ρ, L, args, t, hr, hl, o⟩ := h
  refine ⟨_, hb ⟨kt, ρ, H, fun _ _ _ _ => False⟩ rfl, ρ, L, _, rr_start t hr, ?_⟩
  unfold runDef0 runDef at o
  show OuS (gx X kt) ρ H (fun _ _ _ _ => False) ρ H _ (b (args.map SV.val ++ List.replicate (N.length - args.length) SV.no) L)
  match hbb : b (args.map SV.val ++ List.replicate (N.length - args.length) SV.no) L, o with
  | some (.ok (.rt v) L'), o => exact fun ρ' H' u e t' r => o ρ' H' u e t' r
  | some (.ok (.nx s) L'), o => exact fun ρ' H' σ' st R => o ρ' H' .non R.ext R.st rfl
  | some (.ok (.bk s) L'), o => exact o.elim
  | some (.ok (.ct s) L'), o => exact o.elim
  | some (.err x L'), o => exact o.elim
  | none, o => exact o.elim
theorem def_none {P : Program} {w : World} {K : PySem.W.Frag} {mg : Str → Option Value} {base : Heap} {x qual : Str} {st : Stmt} {f : Addr} {fd : FuncData} {N ps : List Str} {G : Gx} {k : Nat} (F : Fun K x qual st f fd) (S : FnScope N ps (defScope st)) : FnOk P w K mg base CX0 (k + 1) f fd ps (spG G ps.length fun _ _ => none) :=
  F.ok S spG_len fun cdv A outer s H vs Q E hr h => (show False from let ⟨_, _, _, _, _, _, o⟩ := h; o).elim

/-! ### calls -/
def eCall (n : Nat) (g : DS) (fa : AF) (ds : List PV) : EF := fun s L => bnd (fa s L) fun args L1 => if (args ++ ds).length = n then g (args ++ ds) L1 else none
section
variable {X : Cx} {c : FC} {k n : Nat} {f : Addr} {fd : FuncData} {ps : List Str} {g : DS} {dvs : List V} {ds : List Value} {dps : List PV} {x : Str} {p pos : Pos} {e : Expr} {es : List Expr} {fa : AF}
theorem ev_callD (F : FnOk X.prog X.w X.K X.mg X.base CX0 k f fd ps (spG (gx X c.kt) n g)) (hsf : Safe g) (hr : Room k X.A) (hg : Gl X x) (hm : X.mg x = some (.ref f)) (hk : PySem.W.keepIn X.K (.ref f) = true) (hb : Binds X.K fd ps ds) (hd : Vals dvs ds)
    (hdp : ∀ ρ H, Reps (gx X c.kt) ρ H dps dvs) (ha : AV X c (e :: es) fa) (hdb : (x == ("__debug__" : Str)) = false := by decide) (he : starEach (e :: es) X.env = (false, eval e X.env) :: starEach es X.env := by rfl) (hpl : (backTo pos (starEach es X.env)).any (·.1) = false := by rfl) :
    EV X c (.Call (.Name x p) (e :: es) [] pos) (eCall n g fa dps) := by
  refine pe_imp (pe_call F hr hg hm hk hb hd (E := E0) pass0 ha hdb he hpl) fun σ H Q q => ?_
  refine tOf.first (R := RA _) (R' := RE _) (k := fun s args L1 => if (args ++ dps).length = n then g (args ++ dps) L1 else none) q fun ρ L s args L1 ρ1 H1 vs r e1 q1 o => ?_
  split at o
  · rename_i hl
    refine ⟨ρ1, L1, args ++ dps, r.st, Reps.append q1 (hdp ρ1 H1), hl, ?_⟩
    match hgg : g (args ++ dps) L1, o with
    | some (.ok v L2), o => exact o
    | some (.err y L2), o => exact absurd hgg (hsf _ _ _ _)
    | none, o => exact o.elim
  · exact o.elim
theorem ev_call (F : FnOk X.prog X.w X.K X.mg X.base CX0 k f fd ps (spG (gx X c.kt) n g)) (hsf : Safe g) (hr : Room k X.A) (hg : Gl X x) (hm : X.mg x = some (.ref f)) (hk : PySem.W.keepIn X.K (.ref f) = true) (hb : Binds X.K fd ps [])
    (ha : AV X c (e :: es) fa) (hdb : (x == ("__debug__" : Str)) = false := by decide) (he : starEach (e :: es) X.env = (false, eval e X.env) :: starEach es X.env := by rfl) (hpl : (backTo pos (starEach es X.env)).any (·.1) = false := by rfl) :
    EV X c (.Call (.Name x p) (e :: es) [] pos) (eCall n g fa []) := ev_callD F hsf hr hg hm hk hb .nil (fun _ _ => rfl) ha hdb he hpl
end

/-! ### new containers -/
section
variable {X : Cx} {c : FC} {es : List Expr} {fa : AF} {pos : Pos}
def nLst (fa : AF) : CF := fun s L => bnd (fa s L) fun xs L1 => if xs.length ≤ sizeLine then some (.ok (.lst xs) L1) else none
theorem nv_lst (h : AV X c es fa) : NV X c (.List es pos) (nLst fa) := by
  refine pe_imp (pe_lst h) fun σ H Q q => ?_
  refine tOf.first (R := RA _) (R' := RN _) (k := fun s xs L1 => if xs.length ≤ sizeLine then some (.ok (.lst xs) L1) else none) q fun ρ L s xs L1 ρ1 H1 vs r e1 q1 o => ?_
  split at o
  · rename_i hz
    refine ⟨by rw [← Reps.length q1]; exact hz, fun p hp => ?_⟩
    obtain ⟨h1, h2, h3, h4⟩ := Cell.new r.st q1 hp
    exact o ρ1 _ _ h1 h2 ⟨p, rfl, h3, hp, h4⟩
  · exact o.elim
def nDk : CF := fun _ L => some (.ok (.dk []) L)
def nDt : CF := fun _ L => some (.ok (.dt []) L)
theorem nv_dk : NV X c (.Dict [] [] pos) nDk := pe_imp pe_dnewK fun σ H Q q => by
  obtain ⟨ρ, L, s, r, o⟩ := q
  intro p hp
  exact o ρ _ _ (Ext.new hp) (r.st.new hp) ⟨p, rfl, r.st.fresh hp, hp, [], upd_same, rfl, rfl⟩
theorem nv_dt : NV X c (.Dict [] [] pos) nDt := pe_imp pe_dnewT fun σ H Q q => by
  obtain ⟨ρ, L, s, r, o⟩ := q
  intro p hp
  exact o ρ _ _ (Ext.new hp) (r.st.new hp) ⟨p, rfl, r.st.fresh hp, hp, [], upd_same, rfl, rfl⟩
/-- a new object goes into the store -/
def eNew (fc : CF) : EF := fun s L => bnd (fc s L) fun w L1 => some (.ok (.loc L1.length) (L1 ++ [w]))
theorem ev_new {e : Expr} {fc : CF} (h : NV X c e fc) : EV X c e (eNew fc) := by
  refine pe_imp h fun σ H Q q => ?_
  obtain ⟨ρ, L, s, r, o⟩ := q
  refine ⟨ρ, L, s, r, ?_⟩
  unfold eNew at o
  match hf : fc s L, o with
  | none, o => exact o
  | some (.err x L1), o => exact o
  | some (.ok w L1), o =>
    intro ρ1 H1 v e1 t1 q1
    obtain ⟨p, rfl, hp, hn, hc⟩ := q1
    obtain ⟨ob, hob, mu⟩ := hc.there
    have g0 : Stb0 ρ1 (ρ1 ++ [p]) H1 H1 := Stb0.grow hob mu
    have hl := t1.len
    refine o (ρ1 ++ [p]) H1 _ ⟨⟨?_, e1.there, e1.tup, e1.frz⟩, e1.keep⟩ ⟨by simp [hl], List.nodup_append.mpr ⟨t1.nd, by simp, fun a ha b hb z => ?_⟩, fun n d a hd ha => ?_⟩ ⟨p, rfl, ?_⟩
    · obtain ⟨new, rfl, hnew⟩ := e1.pre
      refine ⟨new ++ [p], by simp, fun a ha => ?_⟩
      rcases List.mem_append.mp ha with q | q
      · exact hnew a q
      · obtain rfl : a = p := by simpa using q
        exact hn
    · obtain rfl : b = p := by simpa using hb
      rw [z] at ha
      exact hp ha
    · by_cases hi : n < L1.length
      · rw [List.getElem?_append_left hi] at hd
        rw [List.getElem?_append_left (by omega)] at ha
        exact (t1.cell n d a hd ha).mono0 g0 rfl
      · have hi' : n = L1.length := by
          have := (List.getElem?_eq_some_iff.mp hd).1
          simp at this
          omega
        subst hi'
        rw [List.getElem?_append_right (Nat.le_refl _)] at hd
        rw [List.getElem?_append_right (by omega), ← hl] at ha
        simp at hd ha
        subst hd ha
        exact hc.mono0 g0 rfl
    · rw [List.getElem?_append_right (by omega), ← hl]
      simp
end

/-! ### the law's end -/
theorem end_law {K : PySem.W.Frag} {mg : Str → Option Value} {kt : Bool} {g : DS} {P : Program} {w : World} {base : Heap} {k : Nat} {fa : Addr} {fd : FuncData} {L' : List Int → Store}
    (F : FnOk P w K mg base CX0 k fa fd ["script"] (spG ⟨K, mg, kt⟩ 1 g)) : FnOk P w K mg base CX0 k fa fd ["script"] (fun vs H Q _ => ∃ (a : Addr) (ns : List Int), vs = [.ref a] ∧ Only H ∧ SqL K H a (ns.map V.int) ∧ g [.scr ns] [] = some (.ok (.bl true) (L' ns)) ∧ ∀ H', Q (.bl true) H') := by
  refine F.imp fun vs H Q E ⟨a, ns, e, ho, hs, hg, q⟩ => ?_
  subst e
  refine ⟨[], [], [.scr ns], ⟨rfl, List.nodup_nil, fun n c a h => by simp at h⟩, ⟨_, _, rfl, ⟨a, rfl, ?_⟩, rfl⟩, rfl, ?_⟩
  · rcases hs with (h | ⟨o, h⟩) | h
    · rcases ho a with q | ⟨o, xs, q⟩
      · rw [h] at q; cases q
      · rw [h] at q; cases q
    · exact .inl ⟨by simp, o, h⟩
    · exact .inr h
  · rw [hg]
    intro ρ' H' b _ _ r
    obtain rfl : b = .bl true := r
    exact q H'
end Fx

set_option Elab.async false
set_option linter.all false
set_option maxRecDepth 100000
set_option maxHeartbeats 1000000
/-! Fx part 13: sorted, [::-1], dict.get. -/
namespace Fx
open PySem L2

/-! ### sorted -/
def sortI (ks : List Int) : List Int := ks.mergeSort (fun a b => decide (a ≤ b))
def leS (a b : Str) : Bool := decide (a.cps.toList ≤ b.cps.toList)
def sortS (ks : List Str) : List Str := ks.mergeSort leS
theorem sortI_perm (ks : List Int) : (sortI ks).Perm ks := List.mergeSort_perm _ _
theorem sortI_sorted (ks : List Int) : (sortI ks).Pairwise (· ≤ ·) := by
  have := List.pairwise_mergeSort (le := fun a b : Int => decide (a ≤ b)) (fun a b c h1 h2 => by simp at *; omega) (fun a b => by simp; omega) ks
  exact this.imp fun h => by simpa using h
theorem sortI_eq {ys ks : List Int} (h : ys.Perm ks) (s : ys.Pairwise (· ≤ ·)) : ys = sortI ks :=
  List.Perm.eq_of_pairwise (le := (· ≤ ·)) (fun a b _ _ h1 h2 => Int.le_antisymm h1 h2) s (sortI_sorted ks) (h.trans (sortI_perm ks).symm)
theorem str_ext {a b : Str} (h : a.cps.toList = b.cps.toList) : a = b := by
  obtain ⟨⟨x⟩⟩ := a
  obtain ⟨⟨y⟩⟩ := b
  cases (show x = y from h)
  rfl
theorem leS_trans {a b c : Str} (h1 : leS a b = true) (h2 : leS b c = true) : leS a c = true := by
  unfold leS at *
  simp only [decide_eq_true_eq] at *
  exact List.le_trans h1 h2
theorem leS_total (a b : Str) : (leS a b || leS b a) = true := by
  unfold leS
  simp only [Bool.or_eq_true, decide_eq_true_eq]
  exact List.le_total a.cps.toList b.cps.toList
theorem leS_antisymm {a b : Str} (h1 : leS a b = true) (h2 : leS b a = true) : a = b := by
  unfold leS at *
  simp only [decide_eq_true_eq] at *
  exact str_ext (List.le_antisymm h1 h2)
theorem sortS_perm (ks : List Str) : (sortS ks).Perm ks := List.mergeSort_perm _ _
theorem sortS_sorted (ks : List Str) : (sortS ks).Pairwise (fun a b => leS a b = true) := List.pairwise_mergeSort (le := leS) (fun _ _ _ h1 h2 => leS_trans h1 h2) leS_total ks
theorem rising_pw : ∀ (r : List Str) (p : Str), PyProof.Rows.risingS p r = true → (p :: r).Pairwise (fun a b => leS a b = true)
  | [], p, _ => by simp
  | x :: r, p, h => by
    have h' : (!Spec.ltCps x.cps.toList p.cps.toList) = true ∧ PyProof.Rows.risingS x r = true := by
      have := h
      unfold PyProof.Rows.risingS at this
      simpa using this
    have ih := rising_pw r x h'.2
    have hx : leS p x = true := by
      have h1 := h'.1
      rw [PyProof.Rows.ltCps_eq] at h1
      unfold leS
      simp only [Bool.not_eq_true', decide_eq_false_iff_not] at h1
      simp only [decide_eq_true_eq]
      exact List.not_lt.mp h1
    refine List.pairwise_cons.mpr ⟨fun y hy => ?_, ih⟩
    rcases List.mem_cons.mp hy with e | e
    · rw [e]; exact hx
    · exact leS_trans hx ((List.pairwise_cons.mp ih).1 y e)
theorem sortS_eq {ys ks : List Str} (h : ys.Perm ks) (s : PyProof.Rows.sortedS ys = true) : ys = sortS ks := by
  have hp : ys.Pairwise (fun a b => leS a b = true) := by
    cases ys with
    | nil => simp
    | cons x r => exact rising_pw r x s
  exact List.Perm.eq_of_pairwise (fun a b _ _ h1 h2 => leS_antisymm h1 h2) hp (sortS_sorted ks) (h.trans (sortS_perm ks).symm)

def strKeys : List (Key × PV) → Option (List Str)
  | [] => some []
  | (.inr x, _) :: r => (strKeys r).map (x :: ·)
  | _ :: _ => none
def intKeys : List (Key × PV) → Option (List Int)
  | [] => some []
  | (.inl x, _) :: r => (intKeys r).map (x :: ·)
  | _ :: _ => none
theorem strKeys_some : ∀ {kvs : List (Key × PV)} {ks : List Str}, strKeys kvs = some ks → kvs.map (·.1) = ks.map Sum.inr
  | [], ks, h => by cases h; rfl
  | (.inr x, v) :: r, ks, h => by
    unfold strKeys at h
    cases e : strKeys r with
    | none => rw [e] at h; cases h
    | some ms => rw [e] at h; cases h; simp [strKeys_some e]
  | (.inl x, v) :: r, ks, h => by cases h
theorem intKeys_some : ∀ {kvs : List (Key × PV)} {ks : List Int}, intKeys kvs = some ks → kvs.map (·.1) = ks.map Sum.inl
  | [], ks, h => by cases h; rfl
  | (.inl x, v) :: r, ks, h => by
    unfold intKeys at h
    cases e : intKeys r with
    | none => rw [e] at h; cases h
    | some ms => rw [e] at h; cases h; simp [intKeys_some e]
  | (.inr x, v) :: r, ks, h => by cases h
/-- sorted(d), d a dict of texts or of ints; a list of ints -/
def nSorted (L : Store) (x : Hd) : Option Cell := match view L x with
  | some (.dk kvs) => match strKeys kvs with
    | some ks => if ks.length < 64 then some (.lst ((sortS ks).map PV.str)) else none
    | none => match intKeys kvs with
      | some ks => if ks.length < 64 then some (.lst ((sortI ks).map PV.int)) else none
      | none => none
  | some (.lst xs) => match intsOf xs with
    | some ns => some (.lst ((sortI ns).map PV.int))
    | none => none
  | _ => none
theorem reps_strs {G : Gx} {ρ : List Addr} {H : Hp} : ∀ ns : List Str, Reps G ρ H (ns.map PV.str) (ns.map V.str)
  | [] => rfl
  | n :: ns => ⟨_, _, rfl, rfl, reps_strs ns⟩
def rSortA (K : PySem.W.Frag) : List V → Hp → VK → Prop := fun xs H Q =>
  ((∃ (a : Addr) (kvs : List (Key × V)) (ks : List Str), xs = [.ref a] ∧ Rd H a (.dK kvs) ∧ kvs.map (·.1) = ks.map Sum.inr ∧ ks.length < 64 ∧ ∀ ys p, ys.Perm ks → PyProof.Rows.sortedS ys = true → H p = none → Q (.ref p) (upd H p (.lst (ys.map V.str)))) ∨
  (∃ (a : Addr) (kvs : List (Key × V)) (ks : List Int), xs = [.ref a] ∧ Rd H a (.dK kvs) ∧ kvs.map (·.1) = ks.map Sum.inl ∧ ks.length < 64 ∧ ∀ (ys : List Int) (p : Addr), ys.Perm ks → ys.Pairwise (· ≤ ·) → H p = none → Q (.ref p) (upd H p (.lst (ys.map V.int))))) ∨
  rSortedI K xs H Q
theorem call_sortA {X : Cx} (hc : X.calm = true) : CallR X (.builtin "sorted") (rSortA X.K) := ((call_sortedD hc).or (call_sortedDI hc)).or cr_sortedI
theorem cn_sorted {G : Gx} {K : PySem.W.Frag} (hK : G.K = K) : CalN G nSorted (rSortA K) := by
  subst hK
  intro ρ L H x v z Q t hx hz k
  unfold nSorted at hz
  cases hw : view L x with
  | none => rw [hw] at hz; cases hz
  | some vw =>
    rw [hw] at hz
    have hr := view_rep t hx hw
    cases vw with
    | dk kvs =>
      obtain ⟨a, l, rfl, ha, hs⟩ := hr
      dsimp only at hz
      cases hk : strKeys kvs with
      | some ks =>
        rw [hk] at hz
        dsimp only at hz
        split at hz
        · rename_i h64
          cases hz
          refine .inl (.inl ⟨a, l, ks, rfl, ha, hs.1.trans (strKeys_some hk), h64, fun ys p hp hq hn => ?_⟩)
          rw [sortS_eq hp hq]
          obtain ⟨h1, h2, h3, h4⟩ := Cell.new t (reps_strs (G := G) (ρ := ρ) (H := H) (sortS ks)) hn
          exact k ρ _ p h1 h2 h3 hn h4
        · cases hz
      | none =>
        rw [hk] at hz
        dsimp only at hz
        cases hi : intKeys kvs with
        | none => rw [hi] at hz; cases hz
        | some ks =>
          rw [hi] at hz
          dsimp only at hz
          split at hz
          · rename_i h64
            cases hz
            refine .inl (.inr ⟨a, l, ks, rfl, ha, hs.1.trans (intKeys_some hi), h64, fun ys p hp hq hn => ?_⟩)
            rw [sortI_eq hp hq]
            obtain ⟨h1, h2, h3, h4⟩ := Cell.new t (reps_ints (G := G) (ρ := ρ) (H := H) (sortI ks)) hn
            exact k ρ _ p h1 h2 h3 hn h4
          · cases hz
    | lst xs =>
      obtain ⟨a, vs, rfl, ha, hs⟩ := hr
      dsimp only at hz
      cases hi : intsOf xs with
      | none => rw [hi] at hz; cases hz
      | some ns =>
        rw [hi] at hz
        cases hz
        have := intsOf_rep hi hs
        subst this
        refine .inr ⟨a, ns, rfl, .inl ha, fun ys p hp hq hn => ?_⟩
        rw [sortI_eq hp hq]
        obtain ⟨h1, h2, h3, h4⟩ := Cell.new t (reps_ints (G := G) (ρ := ρ) (H := H) (sortI ns)) hn
        exact k ρ _ p h1 h2 h3 hn h4
    | _ => cases hz
section
variable {X : Cx} {c : FC} {a b e o : Expr} {f : FF Hd} {g g' : EF} {pos p apos cpos : Pos}
theorem nv_sorted (hc : X.calm = true) (hg : Gl X "sorted") (hm : X.mg "sorted" = none) (ha : HV X c a f) (he : starEach (a :: []) X.env = (false, eval a X.env) :: starEach [] X.env := by rfl) : NV X c (.Call (.Name "sorted" p) [a] [] pos) (nCall1 nSorted f) :=
  nv_cB (call_sortA hc) (cn_sorted rfl) hg hm (by decide +kernel) ha (by decide) (by decide) he

/-! ### d.get(k, x) -/
def isDv : Option Vw → Bool
  | some (.dk _) => true
  | some (.dt _) => true
  | _ => false
def eGet (kt : Bool) (f : FF Hd) (g g' : EF) : EF := fun s L => bnd (f s L) fun x L1 => if isDv (view L1 x) = true then bnd (g s L1) fun y L2 => bnd (g' s L2) fun z L3 => match view L3 x with
  | some w => (dLook' kt w y).map fun o => .ok (o.getD z) L3
  | none => none else none
theorem ev_get {kt : Bool} (hu : X.A.units + 1 < cLine) (hk : c.kt = kt) (ha : HV X c o f) (hb : EV X c a g) (hd : EV X c b g') (m : M2 X o "get" apos a b cpos := by exact ⟨rfl, rfl, rfl, rfl⟩) : EV X c (.Call (.Attribute o "get" apos) [a, b] [] cpos) (eGet kt f g g') := by
  subst hk
  refine pe_imp (pe_dget2 hu ha hb hd m) fun σ H Q q => ?_
  refine tOf.first (R := RH _) (R' := RE _) (k := fun s x L1 => if isDv (view L1 x) = true then bnd (g s L1) fun y L2 => bnd (g' s L2) fun z L3 => match view L3 x with
    | some w => (dLook' c.kt w y).map fun o => .ok (o.getD z) L3
    | none => none else none) q fun ρ L s x L1 ρ1 H1 v r e1 q1 o1 => ?_
  split at o1
  · rename_i hv
    have hd : ∃ p, v = .ref p ∧ IsD H1 p := by
      cases hw : view L1 x with
      | none => rw [hw] at hv; cases hv
      | some w =>
        rw [hw] at hv
        have hr := view_rep r.st q1 hw
        cases w with
        | dk kvs => obtain ⟨a, l, rfl, ha, _⟩ := hr; exact ⟨a, rfl, .inl ⟨l, ha⟩⟩
        | dt kvs => obtain ⟨a, l, rfl, ha, _⟩ := hr; exact ⟨a, rfl, .inr ⟨l, ha⟩⟩
        | _ => cases hv
    obtain ⟨p, rfl, hd⟩ := hd
    refine ⟨p, rfl, hd, ρ1, L1, s, r, Ou.bind (R := RE _) (R' := RE _) o1 fun y L2 ρ2 H2 yv _ e2 t2 q2 o2 => ⟨ρ2, L2, s, r.go e2 t2, Ou.bind (R := RE _) (R' := RE _) o2 fun z L3 ρ3 H3 zv _ e3 t3 q3 o3 => ?_⟩⟩
    have q1' := HRep.ext (e2.trans e3) q1
    have q2' := Rep.mono e3.toStb q2
    cases hw : view L3 x with
    | none => rw [hw] at o3; exact o3.elim
    | some w =>
      rw [hw] at o3
      dsimp only at o3
      cases hl : dLook' c.kt w y with
      | none => rw [hl] at o3; exact o3.elim
      | some oo =>
        rw [hl] at o3
        obtain ⟨a', rr, ea, hg, k1, k2⟩ := dget_of' (G := gx X c.kt) (view_rep t3 q1' hw) q2' hl
        cases ea
        refine ⟨rr, hg, ?_⟩
        cases oo with
        | none =>
          rw [k2 rfl]
          exact o3 ρ3 H3 _ Ext.refl t3 q3
        | some u =>
          obtain ⟨uv, rfl, ru⟩ := k1 u rfl
          exact o3 ρ3 H3 _ Ext.refl t3 ru
  · exact o1.elim

/-! ### x[::-1] -/
def nRev (L : Store) (x : Hd) : Option Cell := match view L x with
  | some (.lst xs) => some (.lst xs.reverse)
  | _ => none
theorem nv_rev {k : Nat} {p1 p2 p3 : Pos} (ha : HV X c a f) : NV X c (.Subscript a (.Slice none none (some (.UnaryOp .USub (.Constant (.int 1) k p1) p2)) p3) pos) (nCall1 nRev f) := by
  refine pe_imp (pe_revL ha) fun σ H Q q => ?_
  refine tOf.first (R := RH _) (R' := RN _) (k := fun s x L1 => ret (nRev L1 x) L1) q fun ρ L s x L1 ρ1 H1 v r e1 q1 o => ?_
  obtain ⟨z, hz, kk⟩ := Ou.ret o
  unfold nRev at hz
  cases hw : view L1 x with
  | none => rw [hw] at hz; cases hz
  | some w =>
    rw [hw] at hz
    have hr := view_rep r.st q1 hw
    cases w with
    | lst xs =>
      cases hz
      obtain ⟨a, vs, rfl, ha, hs⟩ := hr
      refine ⟨a, vs, rfl, .inl ha, fun p hp => ?_⟩
      obtain ⟨h1, h2, h3, h4⟩ := Cell.new r.st hs.reverse hp
      exact kk ρ1 _ _ h1 h2 ⟨p, rfl, h3, hp, h4⟩
    | _ => cases hz
end
end Fx

set_option Elab.async false
set_option linter.all false
set_option maxRecDepth 100000
set_option maxHeartbeats 1000000
/-! Fx part 14: a tuple turned about. -/
namespace FT
open PySem PySem.Spec PyProof.Rows L2 HT
section
variable {prog : Program} {w : World} {A : Around} {E : Value → Shared → Prop} {s : Shared}
theorem adjust_rev (n : Nat) : Builtin.Slice.sliceAdjust none none (-1) (n : Int) = ((n : Int) - 1, -1) := by
  unfold Builtin.Slice.sliceAdjust
  simp
theorem places_rev (n : Nat) : Builtin.Slice.slicePlaces ((n : Int) - 1) (-1) (-1) = n := by
  unfold Builtin.Slice.slicePlaces
  simp
  all_goals omega
theorem sliceApplied_rev {sl : Addr} {vl vu vs : Value} {n : Nat} {Q : Int × Int × Nat → Shared → Prop} (hs : s.heap.IsSliceOf sl vl vu vs) (pl : IsPart vl none) (pu : IsPart vu none) (ps : IsPart vs (some (-1)))
    (h : Q ((n : Int) - 1, -1, n) s) : wpAny (model prog w) A (Builtin.Slice.sliceApplied (.ref sl) (pure (n : Int))) Q E s := by
  obtain ⟨os, hos, hcs, hds⟩ := id hs
  unfold Builtin.Slice.sliceApplied Builtin.Slice.sliceFields
  refine wpAny_bind (wpAny_bind (wpAny_field hos hds (x := vl) rfl (wpAny_bind (wpAny_field hos hds (x := vu) rfl (wpAny_bind (wpAny_field hos hds (x := vs) rfl (wpAny_pure ?_)))))))
  refine wpAny_bind (slicePart_ ps ?_)
  show wpAny _ _ (if ((-1 : Int) == 0) = true then _ else _) _ _ s
  rw [if_neg (by decide)]
  refine wpAny_bind (slicePart_ pl (wpAny_bind (slicePart_ pu (wpAny_bind (wpAny_pure ?_)))))
  show wpAny _ _ (match Builtin.Slice.sliceAdjust none none (-1) (n : Int) with | (lo, hi) => pure (lo, (-1 : Int), Builtin.Slice.slicePlaces lo hi (-1))) _ _ s
  rw [adjust_rev n]
  show wpAny _ _ (pure ((n : Int) - 1, (-1 : Int), Builtin.Slice.slicePlaces ((n : Int) - 1) (-1) (-1))) _ _ s
  rw [places_rev]
  exact wpAny_pure h
theorem pick_rev (xs : Array Value) : ((List.range xs.size).filterMap fun (m : Nat) => xs[((xs.size : Int) - 1 + (m : Int) * (-1)).toNat]?).toArray = xs.toList.reverse.toArray := by
  congr 1
  obtain ⟨l⟩ := xs
  show (List.range l.length).filterMap (fun (m : Nat) => (List.toArray l)[((l.length : Int) - 1 + (m : Int) * (-1)).toNat]?) = l.reverse
  have e : ∀ k, k ≤ l.length → (List.range k).filterMap (fun (m : Nat) => (List.toArray l)[((l.length : Int) - 1 + (m : Int) * (-1)).toNat]?) = l.reverse.take k := by
    intro k hk
    induction k with
    | zero => simp
    | succ k ih =>
      have hk' : k < l.length := hk
      rw [List.range_succ, List.filterMap_append, ih (Nat.le_of_lt hk')]
      have e1 : ((l.length : Int) - 1 + (k : Int) * (-1)).toNat = l.length - 1 - k := by omega
      have e2 : l.reverse[k]? = l[l.length - 1 - k]? := by rw [List.getElem?_reverse hk']
      have e3 : l[l.length - 1 - k]? = some (l[l.length - 1 - k]'(by omega)) := by simp
      rw [List.take_add_one, e2]
      simp only [List.filterMap_cons, e1, List.getElem?_toArray, e3, List.filterMap_nil, Option.toList]
  have e9 := e l.length (Nat.le_refl _)
  rw [List.take_of_length_le (by simp)] at e9
  exact e9
theorem getItem_tuple_rev {t sl : Addr} {items : Array Value} {vl vu vs : Value} {Q : Value → Shared → Prop} (ht : IsTup s.heap t items) (hs : s.heap.IsSliceOf sl vl vu vs) (pl : IsPart vl none) (pu : IsPart vu none) (ps : IsPart vs (some (-1)))
    (h : Q (.ref s.heap.objs.size) { s with heap := s.heap.push { cls := .type "tuple", data := .seq items.toList.reverse.toArray } })
    (hsz : items.size ≤ sizeLine) : wpAny (model prog w) A (getItem (.ref t) (.ref sl)) Q E s := by
  have htake : sizeOk (.seq items.toList.reverse.toArray) := by
    show (items.toList.reverse.toArray).size ≤ sizeLine
    rw [List.size_toArray, List.length_reverse, Array.length_toList]
    exact hsz
  obtain ⟨os, hos, hcs, hds⟩ := id hs
  have hTs : s.TypeIs (.ref sl) "slice" := ⟨os, hos, hcs⟩
  unfold getItem
  try with_reducible refine wpAny_holding ?_
  first | refine wpAny_bind (wpAny_pure ?_) | skip
  refine wpAny_bind (wpAny_sequenceKey ht.typeIs (by decide) ?_)
  refine wpAny_bind (wpAny_callSpecial?_slot (name := Str.ofString "__getitem__") ht.typeIs PyProof.Rows.slot_tuple_getitem
    (wpAny_call_entry PyProof.Rows.slot_tuple_getitem ht.typeIs entry_tuple_getitem ?_ (args_tuple_getitem _ _)))
  show wpAny _ _ (Builtin.Tuple.tupleItemsOf (.ref t) >>= _) _ _ s
  refine wpAny_bind (tupleItemsOf_ ht ?_)
  refine wpAny_bind (wpAny_typeOf hTs ?_)
  rw [if_pos (by decide)]
  refine wpAny_bind (sliceApplied_rev hs pl pu ps ?_)
  have hno : ¬ ((((items.size : Int) - 1) == 0 && (-1 : Int) == 1 && items.size == items.size) = true) := by
    intro q
    rw [Bool.and_eq_true, Bool.and_eq_true] at q
    exact absurd q.1.2 (by decide)
  show wpAny _ _ (if (((items.size : Int) - 1) == 0 && (-1 : Int) == 1 && items.size == items.size) = true then _ else _) _ _ s
  rw [if_neg hno, pick_rev]
  first
    | exact wpAny_bind (m := Builtin.Tuple.tupleExact _) (wpAny_newObj_type (wpAny_pure ⟨_, rfl, wpAny_pure h⟩) htake)
    | exact wpAny_bind (m := Builtin.Tuple.tupleExact _) (wpAny_newObj_type (wpAny_bind (wpAny_pure (wpAny_pure ⟨_, rfl, wpAny_pure h⟩))) htake)
    | exact wpAny_bind (wpAny_bind (m := Builtin.Tuple.tupleExact _) (wpAny_newObj_type (wpAny_pure (wpAny_pure ⟨_, rfl, wpAny_pure h⟩)) htake))
    | exact wpAny_bind (wpAny_bind (m := Builtin.Tuple.tupleExact _) (wpAny_newObj_type (wpAny_pure ⟨_, rfl, wpAny_pure h⟩) htake))
end
def tRevT (m : Bool) (K : PySem.W.Frag) (te : TE) : TE := fun σ H Q => te σ H fun x H1 => ∃ a xs, x = .ref a ∧ SqT K H1 a xs ∧ ∀ p u, H1 p = none → FT.TObj m xs.reverse u → Q (.ref p) (upd H1 p u)
theorem pe_revT {m : Bool} {X : Cx} {e : Expr} {te : TE} {k : Nat} {p1 p2 p3 pos : Pos} (he : PE X e te) : PE X (.Subscript e (.Slice none none (some (.UnaryOp .USub (.Constant (.int 1) k p1) p2)) p3) pos) (tRevT m X.K te) := by
  refine ⟨fun pins s σ H Q I h => ?_⟩
  refine Subscript_ (thn (he.run pins s σ H _ I h) fun v s1 ⟨x, H1, I1, r1, q1⟩ => ?_)
  obtain ⟨a, xs, ex, hx, q⟩ := q1
  subst ex
  cases r1
  have hst : PO X (some (.UnaryOp .USub (.Constant (.int 1) k p1) p2)) (tPart (tUn (rU fun i => .int (-i)) (tC (.int 1)))) := po_some (pe_un un_neg pe_int)
  refine wpAny_Slice (thn (po_none.run pins s1 σ H1 (fun o H2 => o = none ∧ H2 = H1) I1 ⟨rfl, rfl⟩) fun vl s2 ⟨l, H2, I2, pl, el, e2⟩ => ?_)
  subst el e2
  refine thn (po_none.run pins s2 σ H2 (fun o H3 => o = none ∧ H3 = H2) I2 ⟨rfl, rfl⟩) fun vu s3 ⟨u, H3, I3, pu, eu, e3⟩ => ?_
  subst eu e3
  refine thn (hst.run pins s3 σ H3 (fun o H4 => o = some (-1) ∧ H4 = H3) I3 ⟨1, rfl, -1, rfl, rfl, rfl⟩) fun vs s4 ⟨o, H4, I4, ps, eo, e4⟩ => ?_
  subst eo e4
  have I5 : Inv X pins σ H4 { s4 with heap := s4.heap.push { cls := .type "slice", data := .fields #[vl, vu, vs] } } := I4.kept (t' := s4.toks) fun b ob q => Heap.get?_push_of_some _ q
  obtain ⟨its, r, ht, hz⟩ := I5.tuple hx
  have hlen := r.length
  show wpAny (model X.prog X.w) X.A (subscriptTail e (.Slice none none (some (.UnaryOp .USub (.Constant (.int 1) k p1) p2)) p3) (.ref a) (.ref s4.heap.objs.size)) (EP X pins σ Q) X.xe { s4 with heap := s4.heap.push { cls := .type "slice", data := .fields #[vl, vu, vs] } }
  refine tail_any (ops := [.ref a, .ref s4.heap.objs.size]) ht.typeIs (PyProof.Rows.slot_tuple_getitem.lookup) ?_ (by with_unfolding_all rfl)
  refine getItem_tuple_rev ht (Heap.IsSliceOf.new _ vl vu vs) pl pu ps ?_ (by rw [List.size_toArray]; omega)
  exact ⟨.ref _, _, I5.laid (t' := s4.toks) (o := FT.mkT m _ xs.reverse) (fun b ob q => Heap.get?_push_of_some _ q) (Nat.le_refl _) (FT.mkT_ok (Heap.get?_push_size _ rfl) rfl rfl r.reverse (by rw [List.length_reverse]; exact hz)), rfl, q _ _ (I5.hok.fresh (Nat.le_refl _)) (FT.mkT_obj rfl)⟩
end FT
namespace Fx
open PySem L2
def hRevT (L : Store) (x : Hd) : Option PV := match view L x with
  | some (.tup xs) => some (.tup xs.reverse)
  | _ => none
theorem ev_revT {X : Cx} {c : FC} {a : Expr} {f : FF Hd} {pos : Pos} {k : Nat} {p1 p2 p3 : Pos} (ha : HV X c a f) : EV X c (.Subscript a (.Slice none none (some (.UnaryOp .USub (.Constant (.int 1) k p1) p2)) p3) pos) (eCall1 hRevT f) := by
  refine pe_imp (FT.pe_revT (m := c.kt) ha) fun σ H Q q => ?_
  refine tOf.first (R := RH _) (R' := RE _) (k := fun s x L1 => ret (hRevT L1 x) L1) q fun ρ L s x L1 ρ1 H1 v r e1 q1 o => ?_
  obtain ⟨z, hz, kk⟩ := Ou.ret o
  unfold hRevT at hz
  cases hw : view L1 x with
  | none => rw [hw] at hz; cases hz
  | some w =>
    rw [hw] at hz
    have hr := view_rep r.st q1 hw
    cases w with
    | tup xs =>
      cases hz
      obtain ⟨a, vs, rfl, ha, hs⟩ := hr
      exact ⟨a, vs, rfl, ha, fun p u hp hu => kk ρ1 _ _ (Ext.new hp) (r.st.new hp) (Rep.tupNew r.st hs.reverse hp hu)⟩
    | _ => cases hz
end Fx

set_option Elab.async false
set_option linter.all false
set_option maxRecDepth 100000
set_option maxHeartbeats 1000000
/-! Fx part 15: lists put together; short forms. -/
namespace Fx
open PySem L2
section
variable {X : Cx} {c : FC} {a b e : Expr} {f g : EF} {pos p : Pos} {x : Str}
def nAdd (f g : EF) : CF := fun s L => bnd (f s L) fun x L1 => bnd (g s L1) fun y L2 => match x, y with
  | .lst a, .lst b => if a.length + b.length ≤ sizeLine then some (.ok (.lst (a ++ b)) L2) else none
  | _, _ => none
theorem nv_add (ha : EV X c a f) (hb : EV X c b g) : NV X c (.BinOp a .Add b pos) (nAdd f g) := by
  refine pe_imp (pe_op op_catF ha hb) fun σ H Q q => ?_
  refine tOf.first (R := RE _) (R' := RN _) (k := fun s x L1 => bnd (g s L1) fun y L2 => match x, y with
    | .lst a, .lst b => if a.length + b.length ≤ sizeLine then some (.ok (.lst (a ++ b)) L2) else none
    | _, _ => none) q fun ρ L s x L1 ρ1 H1 v r e1 q1 o => ?_
  refine ⟨ρ1, L1, s, r, Ou.bind (R := RE _) (R' := RN _) o fun y L2 ρ2 H2 w _ e2 t2 q2 o2 => ?_⟩
  have q1' := Rep.mono e2.toStb q1
  split at o2
  · split at o2
    · rename_i hz
      obtain ⟨p1, o1, vs, rfl, _, h1, h2⟩ := q1'
      obtain ⟨p2, o3, ws, rfl, _, h3, h4⟩ := q2
      refine ⟨p1, p2, vs, ws, rfl, rfl, .inr ⟨_, h1⟩, .inr ⟨_, h3⟩, by rw [← h2.length, ← h4.length]; exact hz, fun p hp => ?_⟩
      obtain ⟨k1, k2, k3, k4⟩ := Cell.new t2 (h2.append h4) hp
      exact o2 ρ2 _ _ k1 k2 ⟨p, rfl, k3, hp, k4⟩
    · exact o2.elim
  · exact o2.elim
theorem vr (i : Nat) (hN : X.N[i]? = some x := by rfl) (hv : Vis X.env.scope x := by first | exact Or.inl rfl | exact Or.inr (Or.inl rfl) | exact Or.inr (Or.inr rfl)) (hd : (x == ("__debug__" : Str)) = false := by decide) (hcd : (x == ("__classdict__" : Str)) = false := by decide) :
    EV X c (.Name x pos) (eVar i) := ev_var hN hv hd hcd
theorem vh (i : Nat) (hN : X.N[i]? = some x := by rfl) (hv : Vis X.env.scope x := by first | exact Or.inl rfl | exact Or.inr (Or.inl rfl) | exact Or.inr (Or.inr rfl)) (hd : (x == ("__debug__" : Str)) = false := by decide) (hcd : (x == ("__classdict__" : Str)) = false := by decide) :
    HV X c (.Name x pos) (hE (eVar i)) := hv_e (ev_var hN hv hd hcd)
theorem vo (i : Nat) (hN : X.N[i]? = some x := by rfl) (hv : Vis X.env.scope x := by first | exact Or.inl rfl | exact Or.inr (Or.inl rfl) | exact Or.inr (Or.inr rfl)) (hd : (x == ("__debug__" : Str)) = false := by decide) (hcd : (x == ("__classdict__" : Str)) = false := by decide) :
    HV X c (.Name x pos) (hOwn i) := hv_own hN hv hd hcd
end
theorem ev_cl {X : Cx} {c : FC} {kt : Bool} {k n : Nat} {f : Addr} {fd : FuncData} {ps : List Str} {g : DS} {x : Str} {p pos : Pos} {e : Expr} {es : List Expr} {fa : AF} (hk : c.kt = kt) (F : FnOk X.prog X.w X.K X.mg X.base CX0 k f fd ps (spG (gx X kt) n g)) (hsf : Safe g) (hr : Room k X.A) (hg : Gl X x) (hm : X.mg x = some (.ref f)) (hkp : PySem.W.keepIn X.K (.ref f) = true) (hb : Binds X.K fd ps [])
    (ha : AV X c (e :: es) fa) (hdb : (x == ("__debug__" : Str)) = false := by decide) (he : starEach (e :: es) X.env = (false, eval e X.env) :: starEach es X.env := by rfl) (hpl : (backTo pos (starEach es X.env)).any (·.1) = false := by rfl) :
    EV X c (.Call (.Name x p) (e :: es) [] pos) (eCall n g fa []) := by
  subst hk
  exact ev_call F hsf hr hg hm hkp hb ha hdb he hpl
theorem hu65 {A : Around} {k : Nat} (hr : Room k A) : A.units + 65 < cLine := by have := hr.un; omega
theorem hu64 {A : Around} {k : Nat} (hr : Room k A) : A.units + 64 < cLine := by have := hr.un; omega
theorem hu1 {A : Around} {k : Nat} (hr : Room k A) : A.units + 1 < cLine := by have := hr.un; omega
theorem hu0 {A : Around} {k : Nat} (hr : Room k A) : A.units < cLine := by have := hr.un; omega
end Fx

set_option Elab.async false
set_option linter.all false
set_option maxRecDepth 100000
set_option maxHeartbeats 1000000
/-! Fx part 16: what a reading comes to. -/
namespace Fx
open PySem L2
section
variable {α β : Type}
/-- the reading gives a value that P holds of -/
def Ok (r : Option (Res α)) (P : α → Store → Prop) : Prop := ∃ a L, r = some (.ok a L) ∧ P a L
theorem Ok.imp {r : Option (Res α)} {P Q : α → Store → Prop} (h : Ok r P) (i : ∀ a L, P a L → Q a L) : Ok r Q := by
  obtain ⟨a, L, e, p⟩ := h
  exact ⟨a, L, e, i a L p⟩
theorem Ok.of {r : Option (Res α)} {a : α} {L : Store} {P : α → Store → Prop} (e : r = some (.ok a L)) (h : P a L) : Ok r P := ⟨a, L, e, h⟩
theorem Ok.eq {r : Option (Res α)} {a : α} {L : Store} (h : Ok r fun b M => b = a ∧ M = L) : r = some (.ok a L) := by
  obtain ⟨b, M, e, rfl, rfl⟩ := h
  exact e
@[simp] theorem Ok_ok {a : α} {L : Store} {P : α → Store → Prop} : Ok (some (.ok a L)) P ↔ P a L := by
  constructor
  · rintro ⟨b, M, e, h⟩
    cases e
    exact h
  · exact fun h => ⟨a, L, rfl, h⟩
@[simp] theorem Ok_none {P : α → Store → Prop} : Ok (none : Option (Res α)) P ↔ False := by
  constructor
  · rintro ⟨b, M, e, h⟩
    cases e
  · exact False.elim
@[simp] theorem Ok_err {x : PX} {L : Store} {P : α → Store → Prop} : Ok (some (.err x L) : Option (Res α)) P ↔ False := by
  constructor
  · rintro ⟨b, M, e, h⟩
    cases e
  · exact False.elim
@[simp] theorem Ok_bnd {r : Option (Res α)} {k : α → Store → Option (Res β)} {P : β → Store → Prop} : Ok (bnd r k) P ↔ Ok r fun a L => Ok (k a L) P := by
  constructor
  · rintro ⟨b, M, e, h⟩
    cases r with
    | none => cases e
    | some z =>
      cases z with
      | ok a L => exact ⟨a, L, rfl, b, M, e, h⟩
      | err x L => cases e
  · rintro ⟨a, L, rfl, h⟩
    exact h
@[simp] theorem Ok_bndN {r : Option (Res α)} {k : α → Store → Option (Res β)} {P : β → Store → Prop} : Ok (bndN r k) P ↔ Ok r fun a L => Ok (k a L) P := by
  constructor
  · rintro ⟨b, M, e, h⟩
    cases r with
    | none => cases e
    | some z =>
      cases z with
      | ok a L => exact ⟨a, L, rfl, b, M, e, h⟩
      | err x L => cases e
  · rintro ⟨a, L, rfl, h⟩
    exact h
@[simp] theorem Ok_ret {o : Option α} {L : Store} {P : α → Store → Prop} : Ok (ret o L) P ↔ ∃ a, o = some a ∧ P a L := by
  cases o with
  | none => simp [ret]
  | some a => simp [ret]
@[simp] theorem Ok_map {o : Option α} {f : α → β} {L : Store} {P : β → Store → Prop} : Ok (o.map fun a => Res.ok (f a) L) P ↔ ∃ a, o = some a ∧ P (f a) L := by
  cases o with
  | none => simp
  | some a => simp
@[simp] theorem Ok_ite {c : Prop} [Decidable c] {a b : Option (Res α)} {P : α → Store → Prop} : Ok (if c then a else b) P ↔ if c then Ok a P else Ok b P := by
  by_cases h : c <;> simp [h]
end
section
variable {s : Slots} {L : Store}
@[simp] theorem eC_at {v : PV} : eC v s L = some (.ok v L) := rfl
@[simp] theorem eVar_at {i : Nat} : eVar i s L = match s[i]? with
  | some (.val v) => some (.ok v L)
  | _ => none := rfl
@[simp] theorem hE_at {f : EF} : hE f s L = bnd (f s L) fun v L1 => some (.ok (.v v) L1) := rfl
@[simp] theorem hOwn_at {i : Nat} : hOwn i s L = match s[i]? with
  | some (.own c) => some (.ok (.o c) L)
  | _ => none := rfl
@[simp] theorem eOp_at {h : PV → PV → Option PV} {f g : EF} : eOp h f g s L = bnd (f s L) fun x L1 => bnd (g s L1) fun y L2 => ret (h x y) L2 := rfl
@[simp] theorem eOpH_at {h : Store → Hd → PV → Option PV} {f : FF Hd} {g : EF} : eOpH h f g s L = bnd (f s L) fun x L1 => bnd (g s L1) fun y L2 => ret (h L2 x y) L2 := rfl
@[simp] theorem eOpH'_at {h : Store → PV → Hd → Option PV} {f : EF} {g : FF Hd} : eOpH' h f g s L = bnd (f s L) fun x L1 => bnd (g s L1) fun y L2 => ret (h L2 x y) L2 := rfl
@[simp] theorem bB_at {f : EF} : bB f s L = bnd (f s L) fun v L1 => match v with
  | .bl k => some (.ok k L1)
  | _ => none := rfl
@[simp] theorem eChain_at {h h' : PV → PV → Option PV} {f g k : EF} : eChain h h' f g k s L = bnd (f s L) fun x L1 => bnd (g s L1) fun y L2 => match h x y with
  | some (.bl true) => bnd (k s L2) fun z L3 => ret (h' y z) L3
  | some (.bl false) => some (.ok (.bl false) L2)
  | _ => none := rfl
@[simp] theorem bAnd_at {p q : BF} : bAnd p q s L = bnd (p s L) fun k L1 => if k = true then q s L1 else some (.ok false L1) := rfl
@[simp] theorem bOr_at {p q : BF} : bOr p q s L = bnd (p s L) fun k L1 => if k = true then some (.ok true L1) else q s L1 := rfl
@[simp] theorem bNot_at {p : BF} : bNot p s L = bnd (p s L) fun k L1 => some (.ok (!k) L1) := rfl
@[simp] theorem eAnd_at {f g : EF} : eAnd f g s L = bnd (f s L) fun v L1 => match v with
  | .bl true => g s L1
  | .bl false => some (.ok (.bl false) L1)
  | _ => none := rfl
@[simp] theorem eOr_at {f g : EF} : eOr f g s L = bnd (f s L) fun v L1 => match v with
  | .bl true => some (.ok (.bl true) L1)
  | .bl false => g s L1
  | _ => none := rfl
@[simp] theorem eNot_at {f : EF} : eNot f s L = bnd (f s L) fun v L1 => match v with
  | .bl k => some (.ok (.bl (!k)) L1)
  | _ => none := rfl
@[simp] theorem eIf_at {p : BF} {f g : EF} : eIf p f g s L = bnd (p s L) fun k L1 => if k = true then f s L1 else g s L1 := rfl
@[simp] theorem aNil_at : aNil s L = some (.ok [] L) := rfl
@[simp] theorem aCons_at {f : EF} {r : AF} : aCons f r s L = bnd (f s L) fun x L1 => bnd (r s L1) fun xs L2 => some (.ok (x :: xs) L2) := rfl
@[simp] theorem eTup_at {fa : AF} : eTup fa s L = bnd (fa s L) fun xs L1 => if xs.length ≤ sizeLine then some (.ok (.tup xs) L1) else none := rfl
@[simp] theorem nLst_at {fa : AF} : nLst fa s L = bnd (fa s L) fun xs L1 => if xs.length ≤ sizeLine then some (.ok (.lst xs) L1) else none := rfl
@[simp] theorem nDk_at : nDk s L = some (.ok (.dk []) L) := rfl
@[simp] theorem nDt_at : nDt s L = some (.ok (.dt []) L) := rfl
@[simp] theorem eFrz_at {fc : CF} : eFrz fc s L = bnd (fc s L) fun w L1 => ret (frzC w) L1 := rfl
@[simp] theorem eNew_at {fc : CF} : eNew fc s L = bnd (fc s L) fun w L1 => some (.ok (.loc L1.length) (L1 ++ [w])) := rfl
@[simp] theorem eNeg_at {f : EF} : eNeg f s L = bnd (f s L) fun v L1 => match v with
  | .int i => some (.ok (.int (-i)) L1)
  | _ => none := rfl
@[simp] theorem oNo_at : oNo s L = some (.ok none L) := rfl
@[simp] theorem oE_at {g : EF} : oE g s L = bnd (g s L) fun v L1 => match v with
  | .int i => some (.ok (some i) L1)
  | _ => none := rfl
@[simp] theorem eSlice_at {f : FF Hd} {lo hi : OF} : eSlice f lo hi s L = bnd (f s L) fun x L1 => bnd (lo s L1) fun l L2 => bnd (hi s L2) fun h L3 => ret (hSlice L3 x l h) L3 := rfl
@[simp] theorem eCall1_at {h : Store → Hd → Option PV} {f : FF Hd} : eCall1 h f s L = bnd (f s L) fun x L1 => ret (h L1 x) L1 := rfl
@[simp] theorem nCall1_at {h : Store → Hd → Option Cell} {f : FF Hd} : nCall1 h f s L = bnd (f s L) fun x L1 => ret (h L1 x) L1 := rfl
@[simp] theorem eIsi_at {T : Ty5} {f : FF Hd} : eIsi T f s L = bnd (f s L) fun x L1 => ret ((isi T x).map PV.bl) L1 := rfl
@[simp] theorem eIsi2_at {T U : Ty5} {f : FF Hd} : eIsi2 T U f s L = bnd (f s L) fun x L1 => ret ((isi T x).bind fun b => (isi U x).map fun d => PV.bl (b || d)) L1 := rfl
@[simp] theorem eGet_at {kt : Bool} {f : FF Hd} {g g' : EF} : eGet kt f g g' s L = bnd (f s L) fun x L1 => if isDv (view L1 x) = true then bnd (g s L1) fun y L2 => bnd (g' s L2) fun z L3 => match view L3 x with
  | some w => (dLook' kt w y).map fun o => .ok (o.getD z) L3
  | none => none else none := rfl
@[simp] theorem nAdd_at {f g : EF} : nAdd f g s L = bnd (f s L) fun x L1 => bnd (g s L1) fun y L2 => match x, y with
  | .lst a, .lst b => if a.length + b.length ≤ sizeLine then some (.ok (.lst (a ++ b)) L2) else none
  | _, _ => none := rfl
@[simp] theorem eCall_at {n : Nat} {g : DS} {fa : AF} {ds : List PV} : eCall n g fa ds s L = bnd (fa s L) fun args L1 => if (args ++ ds).length = n then g (args ++ ds) L1 else none := rfl
@[simp] theorem iE_at {g : EF} : iE g s L = bnd (g s L) fun v L1 => ret (itemsOf v) L1 := rfl
@[simp] theorem iRg1_at {g : EF} : iRg1 g s L = bnd (g s L) fun v L1 => match v with
  | .int j => if -(2 ^ 62) ≤ j ∧ j < 2 ^ 62 then some (.ok (rgItems 0 j.toNat) L1) else none
  | _ => none := rfl
@[simp] theorem iRg2_at {g g2 : EF} : iRg2 g g2 s L = bnd (g s L) fun v L1 => bnd (g2 s L1) fun w L2 => match v, w with
  | .int i, .int j => if (-(2 ^ 62) ≤ i ∧ i < 2 ^ 62) ∧ -(2 ^ 62) ≤ j ∧ j < 2 ^ 62 then some (.ok (rgItems i (j - i).toNat) L2) else none
  | _, _ => none := rfl
@[simp] theorem iZp_at {g g2 : EF} : iZp g g2 s L = bnd (g s L) fun v L1 => bnd (g2 s L1) fun w L2 => ret (hZip v w) L2 := rfl
@[simp] theorem nComp_at {fi : AF} {t : TGF} {p : BF} {g : EF} {vs : List Nat} : nComp fi t p g vs s L = bnd (fi s L) fun xs L1 => cLoop t p g (wipeS s vs) xs [] L1 := rfl
@[simp] theorem pYes_at : pYes s L = some (.ok true L) := rfl
@[simp] theorem gNm_at {i : Nat} {x : PV} : gNm i x s = some (s.set i (.val x)) := rfl
@[simp] theorem gTp_at {u : List PV → Slots → Option Slots} {xs : List PV} : gTp u (.tup xs) s = u xs s := rfl
@[simp] theorem gCns_at {t : TGF} {u : List PV → Slots → Option Slots} {x : PV} {r : List PV} : gCns t u (x :: r) s = (t x s).bind (u r) := rfl
@[simp] theorem gNls_at : gNls [] s = some s := rfl
@[simp] theorem wipeS_nil : wipeS s [] = s := rfl
@[simp] theorem wipeS_cons {v : Nat} {vs : List Nat} : wipeS s (v :: vs) = (wipeS s vs).set v .no := rfl
/-! statements -/
@[simp] theorem sNx_at : sNx s L = some (.ok (.nx s) L) := rfl
@[simp] theorem sPass_at : sPass s L = some (.ok (.nx s) L) := rfl
@[simp] theorem sCt_at : sCt s L = some (.ok (.ct s) L) := rfl
@[simp] theorem sRet_at {f : EF} : sRet f s L = bnd (f s L) fun v L1 => some (.ok (.rt v) L1) := rfl
@[simp] theorem sRetN_at : sRetN s L = some (.ok (.rt .non) L) := rfl
@[simp] theorem sIf_at {p : BF} {g h : SF} : sIf p g h s L = bnd (p s L) fun k L1 => if k = true then g s L1 else h s L1 := rfl
@[simp] theorem sDrop_at {f : EF} : sDrop f s L = bnd (f s L) fun _ L1 => some (.ok (.nx s) L1) := rfl
@[simp] theorem sSet_at {i : Nat} {f : EF} : sSet i f s L = bnd (f s L) fun v L1 => some (.ok (.nx (s.set i (.val v))) L1) := rfl
@[simp] theorem sOwn_at {i : Nat} {fc : CF} : sOwn i fc s L = bnd (fc s L) fun w L1 => some (.ok (.nx (s.set i (.own w))) L1) := rfl
@[simp] theorem sAsg_at {f : EF} {t : TGF} : sAsg f t s L = bnd (f s L) fun v L1 => (t v s).map fun s1 => .ok (.nx s1) L1 := rfl
@[simp] theorem sPar_at {i j : Nat} {f g : EF} : sPar i j f g s L = bnd (f s L) fun v L1 => bnd (g s L1) fun w L2 => some (.ok (.nx ((s.set i (.val v)).set j (.val w))) L2) := rfl
@[simp] theorem sOwnM_at {m : Cell → List PV → Option Cell} {i : Nat} {fa : AF} : sOwnM m i fa s L = match s[i]? with
  | some (.own c) => if isLst c = true then bnd (fa s L) fun xs L1 => (m c xs).map fun c' => .ok (.nx (s.set i (.own c'))) L1 else none
  | _ => none := rfl
@[simp] theorem sPutO_at {kt : Bool} {i : Nat} {fk fv : EF} : sPutO kt i fk fv s L = bnd (fv s L) fun v L1 => match s[i]? with
  | some (.own c) => bnd (fk s L1) fun k L2 => (setC kt c k v).map fun c' => .ok (.nx (s.set i (.own c'))) L2
  | _ => none := rfl
@[simp] theorem sPutL_at {kt : Bool} {fo fk fv : EF} : sPutL kt fo fk fv s L = bnd (fv s L) fun v L1 => bnd (fo s L1) fun o L2 => bnd (fk s L2) fun k L3 => match o with
  | .loc n => match L3[n]? with
    | some c => (setC kt c k v).map fun c' => .ok (.nx s) (L3.set n c')
    | none => none
  | _ => none := rfl
@[simp] theorem sFrz_at {i : Nat} {h : SF} : sFrz i h s L = match s[i]? with
  | some (.own c) => match frzC c with
    | some x => h (s.set i (.val x)) L
    | none => none
  | _ => h s L := rfl
@[simp] theorem sFor_at {fi : AF} {t : TGF} {b : SF} : sFor fi t b s L = bnd (fi s L) fun xs L1 => fLoop t b xs s L1 := rfl
theorem Ok_seq {f g : SF} {P : Flw → Store → Prop} : Ok (sSeq f g s L) P ↔ Ok (f s L) fun w L1 => match w with
  | .nx s1 => Ok (g s1 L1) P
  | w => P w L1 := by
  unfold sSeq
  constructor
  · rintro ⟨b, M, e, h⟩
    match hf : f s L, e with
    | some (.ok (.nx s1) L1), e => exact ⟨_, _, rfl, b, M, e, h⟩
    | some (.ok (.rt v) L1), e => cases e; exact ⟨_, _, rfl, h⟩
    | some (.ok (.bk v) L1), e => cases e; exact ⟨_, _, rfl, h⟩
    | some (.ok (.ct v) L1), e => cases e; exact ⟨_, _, rfl, h⟩
    | some (.err v L1), e => cases e
    | none, e => cases e
  · rintro ⟨w, M, e, h⟩
    rw [e]
    cases w with
    | nx s1 => exact h
    | rt v => exact ⟨_, _, rfl, h⟩
    | bk v => exact ⟨_, _, rfl, h⟩
    | ct v => exact ⟨_, _, rfl, h⟩
section
variable {g : SF} {P : Flw → Store → Prop}
@[simp] theorem Ok_seqSet {i : Nat} {f : EF} : Ok (sSeq (sSet i f) g s L) P ↔ Ok (f s L) fun v L1 => Ok (g (s.set i (.val v)) L1) P := by simp [Ok_seq]
@[simp] theorem Ok_seqOwn {i : Nat} {f : CF} : Ok (sSeq (sOwn i f) g s L) P ↔ Ok (f s L) fun v L1 => Ok (g (s.set i (.own v)) L1) P := by simp [Ok_seq]
@[simp] theorem Ok_seqDrop {f : EF} : Ok (sSeq (sDrop f) g s L) P ↔ Ok (f s L) fun v L1 => Ok (g s L1) P := by simp [Ok_seq]
@[simp] theorem Ok_seqAsg {f : EF} {t : TGF} : Ok (sSeq (sAsg f t) g s L) P ↔ Ok (f s L) fun v L1 => ∃ s1, t v s = some s1 ∧ Ok (g s1 L1) P := by simp [Ok_seq]
@[simp] theorem Ok_seqPar {i j : Nat} {f h : EF} : Ok (sSeq (sPar i j f h) g s L) P ↔ Ok (f s L) fun v L1 => Ok (h s L1) fun w L2 => Ok (g ((s.set i (.val v)).set j (.val w)) L2) P := by simp [Ok_seq]
@[simp] theorem Ok_seqPutL {kt : Bool} {n : Nat} {c : Cell} {fk fv : EF} {i : Nat} (hs : s[i]? = some (.val (.loc n))) : Ok (sSeq (sPutL kt (eVar i) fk fv) g s L) P ↔ Ok (fv s L) fun v L1 => Ok (fk s L1) fun k L3 => ∃ c c', L3[n]? = some c ∧ setC kt c k v = some c' ∧ Ok (g s (L3.set n c')) P := by
  have e : eVar i s = fun L => some (.ok (.loc n) L) := by funext L; simp [hs]
  simp only [Ok_seq, sPutL_at, e, bnd_ok, Ok_bnd]
  constructor
  · rintro ⟨v, L1, h1, k, L3, h2, w, M, h3, h4⟩
    refine ⟨v, L1, h1, k, L3, h2, ?_⟩
    cases hc : L3[n]? with
    | none => rw [hc] at h3; cases h3
    | some c =>
      rw [hc] at h3
      dsimp only at h3
      cases hd : setC kt c k v with
      | none => rw [hd] at h3; cases h3
      | some c' => rw [hd] at h3; cases h3; exact ⟨c, c', hc, hd, h4⟩
  · rintro ⟨v, L1, h1, k, L3, h2, c, c', h3, h4, h5⟩
    refine ⟨v, L1, h1, k, L3, h2, .nx s, _, ?_, h5⟩
    rw [h3]
    dsimp only
    rw [h4]
    rfl
theorem Ok.seq {f : SF} {S : Flw → Store → Prop} (h : Ok (f s L) S) (k : ∀ w L1, S w L1 → match w with
  | .nx s1 => Ok (g s1 L1) P
  | w => P w L1) : Ok (sSeq f g s L) P := Ok_seq.mpr (h.imp k)
/-- a branch ahead of more: S holds where it goes on -/
theorem Ok.seqIf {p : BF} {a b : SF} (S : Slots → Store → Prop) (h : Ok (sIf p a b s L) fun w L1 => match w with
  | .nx s1 => S s1 L1
  | w => P w L1) (k : ∀ s1 L1, S s1 L1 → Ok (g s1 L1) P) : Ok (sSeq (sIf p a b) g s L) P := Ok.seq h fun w L1 q => by
  cases w with
  | nx s1 => exact k s1 L1 q
  | _ => exact q
end
/-! values -/
@[simp] theorem hAdd_i {i j : Int} : hAdd (.int i) (.int j) = some (.int (i + j)) := rfl
@[simp] theorem hAdd_s {x y : Str} : hAdd (.str x) (.str y) = if x.length + y.length ≤ sizeLine then some (.str (x ++ y)) else none := rfl
@[simp] theorem hAdd_t {x y : List PV} : hAdd (.tup x) (.tup y) = if x.length + y.length ≤ sizeLine then some (.tup (x ++ y)) else none := rfl
@[simp] theorem hAdd_l {x y : List PV} : hAdd (.lst x) (.lst y) = if x.length + y.length ≤ sizeLine then some (.lst (x ++ y)) else none := rfl
@[simp] theorem hSub_i {i j : Int} : hSub (.int i) (.int j) = some (.int (i - j)) := rfl
@[simp] theorem hMulI_i {i j : Int} : hMulI (.int i) (.int j) = if i.natAbs.log2 + j.natAbs.log2 < 1000000 then some (.int (i * j)) else none := rfl
@[simp] theorem hMod_i {i j : Int} : hMod (.int i) (.int j) = if 0 < j then some (.int (i % j)) else none := rfl
@[simp] theorem hDiv_i {i j : Int} : hDiv (.int i) (.int j) = if 0 < j ∧ j.natAbs.log2 < 9000 then some (.int (i / j)) else none := rfl
@[simp] theorem hPow_i {i j : Int} : hPow (.int i) (.int j) = if 0 ≤ j ∧ j ≤ 1000000 ∧ i.natAbs < 2 ^ 64 then some (.int (i ^ j.toNat)) else none := rfl
@[simp] theorem hCmp_i {p : Int → Int → Bool} {i j : Int} : hCmp p (.int i) (.int j) = some (.bl (p i j)) := rfl
@[simp] theorem hLt_i {i j : Int} : hLt (.int i) (.int j) = some (.bl (decide (i < j))) := rfl
@[simp] theorem hLt_s {x y : Str} : hLt (.str x) (.str y) = some (.bl (decide (x.cps.toList < y.cps.toList))) := rfl
@[simp] theorem hIs_b {a b : Bool} : hIs (.bl a) (.bl b) = some (.bl (decide (a = b))) := rfl
@[simp] theorem hEq_i {i j : Int} : hEq (.int i) (.int j) = some (.bl (i == j)) := rfl
@[simp] theorem hNe_i {i j : Int} : hNe (.int i) (.int j) = some (.bl (!(i == j))) := rfl
@[simp] theorem hEq_b {i j : Bool} : hEq (.bl i) (.bl j) = some (.bl (i == j)) := rfl
@[simp] theorem hNe_b {i j : Bool} : hNe (.bl i) (.bl j) = some (.bl (!(i == j))) := rfl
@[simp] theorem view_t {xs : List PV} : view L (.v (.tup xs)) = some (.tup xs) := rfl
@[simp] theorem view_l {xs : List PV} : view L (.v (.lst xs)) = some (.lst xs) := rfl
@[simp] theorem view_s {xs : Str} : view L (.v (.str xs)) = some (.str xs) := rfl
@[simp] theorem view_ol {xs : List PV} : view L (.o (.lst xs)) = some (.lst xs) := rfl
@[simp] theorem view_odk {xs : List (Key × PV)} : view L (.o (.dk xs)) = some (.dk xs) := rfl
@[simp] theorem view_odt {xs : List (List Key × PV)} : view L (.o (.dt xs)) = some (.dt xs) := rfl
@[simp] theorem view_loc {n : Nat} : view L (.v (.loc n)) = match L[n]? with
  | some c => cellV c
  | none => none := rfl
@[simp] theorem cellV_l {xs : List PV} : cellV (.lst xs) = some (.lst xs) := rfl
@[simp] theorem frzC_l {xs : List PV} : frzC (.lst xs) = some (.lst xs) := rfl
@[simp] theorem frzC_dk {kvs : List (Key × PV)} : frzC (.dk kvs) = some (.dk (kvs.map (·.1)) (kvs.map (·.2))) := rfl
@[simp] theorem hLen_t {xs : List PV} : hLen L (.v (.tup xs)) = some (.int xs.length) := rfl
@[simp] theorem hLen_l {xs : List PV} : hLen L (.v (.lst xs)) = some (.int xs.length) := rfl
@[simp] theorem hLen_o {xs : List PV} : hLen L (.o (.lst xs)) = some (.int xs.length) := rfl
@[simp] theorem hLen_s {z : Str} : hLen L (.v (.str z)) = if z.length ≤ sizeLine then some (.int z.length) else none := rfl
@[simp] theorem hIx_t {kt : Bool} {xs : List PV} {i : Int} : hIx kt L (.v (.tup xs)) (.int i) = atI xs i := rfl
@[simp] theorem hIx_l {kt : Bool} {xs : List PV} {i : Int} : hIx kt L (.v (.lst xs)) (.int i) = atI xs i := rfl
@[simp] theorem hIx_o {kt : Bool} {xs : List PV} {i : Int} : hIx kt L (.o (.lst xs)) (.int i) = atI xs i := rfl
@[simp] theorem isi_v {T : Ty5} {x : PV} : isi T (.v x) = if okP x = true then some (isP T x) else none := rfl
@[simp] theorem itemsOf_l {xs : List PV} : itemsOf (.lst xs) = some xs := rfl
@[simp] theorem itemsOf_t {xs : List PV} : itemsOf (.tup xs) = some xs := rfl
@[simp] theorem hTuple_t {xs : List PV} : hTuple L (.v (.tup xs)) = some (.tup xs) := rfl
@[simp] theorem hTuple_l {xs : List PV} : hTuple L (.v (.lst xs)) = some (.tup xs) := rfl
@[simp] theorem hTuple_o {xs : List PV} : hTuple L (.o (.lst xs)) = some (.tup xs) := rfl
@[simp] theorem nList_t {xs : List PV} : nList L (.v (.tup xs)) = some (.lst xs) := rfl
@[simp] theorem nList_l {xs : List PV} : nList L (.v (.lst xs)) = some (.lst xs) := rfl
@[simp] theorem nList_s {ns : List Int} : nList L (.v (.scr ns)) = some (.lst (ns.map PV.int)) := rfl
@[simp] theorem hAbs_i {i : Int} : hAbs L (.v (.int i)) = some (.int (if i < 0 then -i else i)) := rfl
@[simp] theorem hMax2_i {i j : Int} : hMax2 (.int i) (.int j) = some (.int (if j > i then j else i)) := rfl
@[simp] theorem hMin2_i {i j : Int} : hMin2 (.int i) (.int j) = some (.int (if j < i then j else i)) := rfl
@[simp] theorem mAppend_l {xs : List PV} {x : PV} : mAppend (.lst xs) [x] = if xs.length < sizeLine then some (.lst (xs ++ [x])) else none := rfl
@[simp] theorem isLst_l {xs : List PV} : isLst (.lst xs) = true := rfl
end
theorem atI_nat1 {xs : List PV} {i : Nat} {x : PV} (h : xs[i]? = some x) : atI xs (i : Int) = some x := by
  obtain ⟨hi, e⟩ := List.getElem?_eq_some_iff.mp h
  unfold atI ixN
  simp [hi, e]
@[simp] theorem atI_0 {x : PV} {r : List PV} : atI (x :: r) 0 = some x := atI_nat1 (i := 0) rfl
@[simp] theorem atI_1 {x y : PV} {r : List PV} : atI (x :: y :: r) 1 = some y := atI_nat1 (i := 1) rfl
@[simp] theorem atI_2 {x y z : PV} {r : List PV} : atI (x :: y :: z :: r) 2 = some z := atI_nat1 (i := 2) rfl
theorem ok_def {n : Nat} {b : SF} {args : List PV} {L : Store} {P : PV → Store → Prop} : Ok (runDef0 n b args L) P ↔ Ok (b (args.map SV.val ++ List.replicate (n - args.length) SV.no) L) fun w L' => match w with
  | .rt v => P v L'
  | .nx _ => P .non L'
  | _ => False := by
  unfold runDef0 runDef
  constructor
  · rintro ⟨v, M, e, h⟩
    match hf : b (args.map SV.val ++ List.replicate (n - args.length) SV.no) L, e with
    | some (.ok (.nx s1) L1), e => cases e; exact ⟨_, _, rfl, h⟩
    | some (.ok (.rt v) L1), e => cases e; exact ⟨_, _, rfl, h⟩
    | some (.ok (.bk v) L1), e => cases e
    | some (.ok (.ct v) L1), e => cases e
    | some (.err v L1), e => cases e
    | none, e => cases e
  · rintro ⟨w, M, e, h⟩
    rw [e]
    cases w with
    | nx s1 => exact ⟨_, _, rfl, h⟩
    | rt v => exact ⟨_, _, rfl, h⟩
    | bk v => exact h.elim
    | ct v => exact h.elim
theorem Ok_wLoop0 {p : BF} {b : SF} {n : Nat} {s : Slots} {L : Store} (h : p s L = some (.ok false L)) : wLoop p b (n + 1) s L = some (.ok (.nx s) L) := by
  unfold wLoop
  rw [h]
theorem Ok_wLoop1 {p : BF} {b : SF} {n : Nat} {s s2 : Slots} {L L2 : Store} (h : p s L = some (.ok true L)) (h2 : b s L = some (.ok (.nx s2) L2)) : wLoop p b (n + 1) s L = wLoop p b n s2 L2 := by
  show (match p s L with
    | some (.ok true L1) => match b s L1 with
      | some (.ok (.nx s2) L2) => wLoop p b n s2 L2
      | some (.ok (.ct s2) L2) => wLoop p b n s2 L2
      | some (.ok (.bk s2) L2) => some (.ok (.nx s2) L2)
      | z => z
    | some (.ok false L1) => some (.ok (.nx s) L1)
    | some (.err x L1) => some (.err x L1)
    | none => none) = _
  rw [h]
  dsimp only
  rw [h2]
/-- a loop that looks at each item and ends with v at the first that fails -/
theorem fLoop_chk {t : TGF} {b : SF} {L : Store} {q : PV → Bool} {v : PV} {S : Slots → Prop} : ∀ (xs : List PV) (s : Slots), S s → (∀ x ∈ xs, ∀ s, S s → ∃ s1 s2, t x s = some s1 ∧ S s2 ∧ b s1 L = some (.ok (if q x = true then .nx s2 else .rt v) L)) →
    ∃ s', S s' ∧ fLoop t b xs s L = some (.ok (if xs.all q = true then .nx s' else .rt v) L)
  | [], s, h, _ => ⟨s, h, rfl⟩
  | x :: r, s, h, hb => by
    obtain ⟨s1, s2, h1, h2, h3⟩ := hb x (by simp) s h
    unfold fLoop
    rw [h1]
    dsimp only
    rw [h3]
    cases hq : q x with
    | false =>
      rw [if_neg Bool.false_ne_true]
      exact ⟨s2, h2, by simp [hq]⟩
    | true =>
      rw [if_pos rfl]
      obtain ⟨s', k1, k2⟩ := fLoop_chk r s2 h2 fun y hy => hb y (List.mem_cons_of_mem x hy)
      exact ⟨s', k1, by simpa [hq] using k2⟩
@[simp] theorem blsOf_map {α : Type} {f : α → Bool} : ∀ xs : List α, blsOf (xs.map fun x => .bl (f x)) = some (xs.map f)
  | [] => rfl
  | x :: xs => by
    show (blsOf (xs.map fun x => .bl (f x))).map (f x :: ·) = _
    rw [blsOf_map xs]
    rfl
theorem hAll_map {α : Type} {f : α → Bool} {xs : List α} {L : Store} : hAll L (.v (.lst (xs.map fun x => .bl (f x)))) = some (.bl (xs.all f)) := by
  show (blsOf (xs.map fun x => .bl (f x))).map (fun bs => PV.bl (bs.all _root_.id)) = _
  rw [blsOf_map]
  simp [Function.comp_def]
/-- the turns of while loops: more than any number here -/
def fuelN : Nat := 2 ^ 8000
/-- a list told to be empty -/
theorem hEq_nil {xs : List PV} (h : dOks 63 xs = true) : hEq (.lst xs) (.lst []) = some (.bl xs.isEmpty) := by
  unfold hEq
  have e : dOk 64 (.lst xs) = true ∧ dOk 64 (.lst []) = true := ⟨h, rfl⟩
  rw [if_pos e]
  cases xs <;> rfl
theorem dOks_of {n : Nat} : ∀ {xs : List PV}, (∀ x ∈ xs, dOk n x = true) → dOks n xs = true
  | [], _ => rfl
  | x :: r, h => by
    have h1 := h x (by simp)
    have h2 := dOks_of (xs := r) fun y hy => h y (List.mem_cons_of_mem x hy)
    simp [dOks, h1, h2]
/-- a loop that keeps I of what is left -/
theorem ok_loop {t : TGF} {b : SF} {P : Flw → Store → Prop} (I : List PV → Slots → Store → Prop)
    (step : ∀ x r s L, I (x :: r) s L → ∃ s1, t x s = some s1 ∧ Ok (b s1 L) fun w L2 => match w with
      | .nx s2 => I r s2 L2
      | .ct s2 => I r s2 L2
      | .bk s2 => P (.nx s2) L2
      | .rt v => P (.rt v) L2)
    (done : ∀ s L, I [] s L → P (.nx s) L) : ∀ xs s L, I xs s L → Ok (fLoop t b xs s L) P
  | [], s, L, h => by
    show Ok (some (.ok (.nx s) L)) P
    exact Ok_ok.mpr (done s L h)
  | x :: r, s, L, h => by
    obtain ⟨s1, h1, w, L2, h2, h3⟩ := step x r s L h
    unfold fLoop
    rw [h1]
    dsimp only
    rw [h2]
    cases w with
    | nx s2 => exact ok_loop I step done r s2 L2 h3
    | ct s2 => exact ok_loop I step done r s2 L2 h3
    | bk s2 => exact Ok_ok.mpr h3
    | rt v => exact Ok_ok.mpr h3
/-- a comprehension whose parts are plain functions -/
theorem cLoop_pure {t : TGF} {p : BF} {g : EF} {s : Slots} {L : Store} {q : PV → Bool} {e : PV → PV} : ∀ (xs acc : List PV), (∀ x ∈ xs, ∃ s1, t x s = some s1 ∧ p s1 L = some (.ok (q x) L) ∧ (q x = true → g s1 L = some (.ok (e x) L))) → acc.length + xs.length ≤ sizeLine →
    cLoop t p g s xs acc L = some (.ok (.lst (acc ++ (xs.filter q).map e)) L)
  | [], acc, _, _ => by simp [cLoop]
  | x :: r, acc, h, hz => by
    obtain ⟨s1, h1, h2, h3⟩ := h x (by simp)
    have hr := fun y hy => h y (List.mem_cons_of_mem x hy)
    have hz' : acc.length + (r.length + 1) ≤ sizeLine := by simpa using hz
    unfold cLoop
    rw [h1]
    dsimp only
    rw [h2, bndN_ok]
    cases hq : q x with
    | false =>
      rw [if_neg Bool.false_ne_true, cLoop_pure r acc hr (by omega)]
      simp [hq]
    | true =>
      rw [if_pos rfl, h3 hq, bndN_ok, if_pos (by omega), cLoop_pure r (acc ++ [e x]) hr (by simp; omega)]
      simp [hq]
/-- a comprehension, with an invariant -/
theorem ok_comp {t : TGF} {p : BF} {g : EF} {s : Slots} {P : Cell → Store → Prop} (I : List PV → List PV → Store → Prop)
    (step : ∀ x r acc L, I (x :: r) acc L → ∃ s1, t x s = some s1 ∧ Ok (p s1 L) fun b L1 => if b = true then Ok (g s1 L1) fun y L2 => acc.length < sizeLine ∧ I r (acc ++ [y]) L2 else I r acc L1)
    (done : ∀ acc L, I [] acc L → P (.lst acc) L) : ∀ xs acc L, I xs acc L → Ok (cLoop t p g s xs acc L) P
  | [], acc, L, h => by
    show Ok (some (.ok (.lst acc) L)) P
    exact Ok_ok.mpr (done acc L h)
  | x :: r, acc, L, h => by
    obtain ⟨s1, h1, b, L1, h2, h3⟩ := step x r acc L h
    unfold cLoop
    rw [h1]
    dsimp only
    rw [h2, bndN_ok]
    cases b with
    | false =>
      rw [if_neg Bool.false_ne_true] at h3
      rw [if_neg Bool.false_ne_true]
      exact ok_comp I step done r acc L1 h3
    | true =>
      rw [if_pos rfl] at h3
      obtain ⟨y, L2, h4, h5, h6⟩ := h3
      rw [if_pos rfl, h4, bndN_ok, if_pos h5]
      exact ok_comp I step done r _ L2 h6
end Fx

set_option Elab.async false
set_option linter.all false
set_option maxRecDepth 100000
set_option maxHeartbeats 1000000
/-! Fx part 17: more of what readings come to. -/
namespace Fx
open PySem L2
theorem cLoop_src {α : Type} {t : TGF} {p : BF} {g : EF} {s : Slots} {L : Store} {f : α → PV} {q : α → Bool} {e : α → PV} : ∀ (xs : List α) (acc : List PV), (∀ x ∈ xs, ∃ s1, t (f x) s = some s1 ∧ p s1 L = some (.ok (q x) L) ∧ (q x = true → g s1 L = some (.ok (e x) L))) → acc.length + xs.length ≤ sizeLine →
    cLoop t p g s (xs.map f) acc L = some (.ok (.lst (acc ++ (xs.filter q).map e)) L)
  | [], acc, _, _ => by simp [cLoop]
  | x :: r, acc, h, hz => by
    obtain ⟨s1, h1, h2, h3⟩ := h x (by simp)
    have hr := fun y hy => h y (List.mem_cons_of_mem x hy)
    have hz' : acc.length + (r.length + 1) ≤ sizeLine := by simpa using hz
    rw [List.map_cons]
    unfold cLoop
    rw [h1]
    dsimp only
    rw [h2, bndN_ok]
    cases hq : q x with
    | false =>
      rw [if_neg Bool.false_ne_true, cLoop_src r acc hr (by omega)]
      simp [hq]
    | true =>
      rw [if_pos rfl, h3 hq, bndN_ok, if_pos (by omega), cLoop_src r (acc ++ [e x]) hr (by simp; omega)]
      simp [hq]
theorem comp_src {α : Type} {t : TGF} {p : BF} {g : EF} {s : Slots} {L : Store} {f : α → PV} (q : α → Bool) (e : α → PV) {xs : List α} (h : ∀ x ∈ xs, ∃ s1, t (f x) s = some s1 ∧ p s1 L = some (.ok (q x) L) ∧ (q x = true → g s1 L = some (.ok (e x) L))) (hz : xs.length ≤ sizeLine) :
    cLoop t p g s (xs.map f) [] L = some (.ok (.lst ((xs.filter q).map e)) L) := by
  rw [cLoop_src xs [] h (by simpa using hz), List.nil_append]
theorem comp_srcY {α : Type} {t : TGF} {g : EF} {s : Slots} {L : Store} {f : α → PV} (e : α → PV) {xs : List α} (h : ∀ x ∈ xs, ∃ s1, t (f x) s = some s1 ∧ g s1 L = some (.ok (e x) L)) (hz : xs.length ≤ sizeLine) :
    cLoop t pYes g s (xs.map f) [] L = some (.ok (.lst (xs.map e)) L) := by
  have := comp_src (t := t) (p := pYes) (g := g) (s := s) (L := L) (f := f) (fun _ => true) e (xs := xs) (fun x hx => by obtain ⟨s1, h1, h2⟩ := h x hx; exact ⟨s1, h1, rfl, fun _ => h2⟩) hz
  rw [this, List.filter_eq_self.mpr fun _ _ => rfl]
theorem comp_pv {t : TGF} {p : BF} {g : EF} {s : Slots} {L : Store} (q : PV → Bool) (e : PV → PV) {xs : List PV} (h : ∀ x ∈ xs, ∃ s1, t x s = some s1 ∧ p s1 L = some (.ok (q x) L) ∧ (q x = true → g s1 L = some (.ok (e x) L))) (hz : xs.length ≤ sizeLine) :
    cLoop t p g s xs [] L = some (.ok (.lst ((xs.filter q).map e)) L) := by
  have := comp_src (f := fun x => x) q e h hz
  rwa [List.map_id'] at this
theorem comp_pvY {t : TGF} {g : EF} {s : Slots} {L : Store} (e : PV → PV) {xs : List PV} (h : ∀ x ∈ xs, ∃ s1, t x s = some s1 ∧ g s1 L = some (.ok (e x) L)) (hz : xs.length ≤ sizeLine) :
    cLoop t pYes g s xs [] L = some (.ok (.lst (xs.map e)) L) := by
  have := comp_srcY (f := fun x => x) e h hz
  rwa [List.map_id'] at this
end Fx

set_option Elab.async false
set_option linter.all false
set_option maxRecDepth 100000
set_option maxHeartbeats 1000000
/-! Fx part 18: dicts with texts for keys. -/
namespace Fx
open PySem L2
theorem ix_mem {xs : List PV} {i : Int} (h0 : 0 ≤ i) (h1 : i < xs.length) : ∃ x ∈ xs, atI xs i = some x := by
  obtain ⟨k, rfl⟩ := Int.eq_ofNat_of_zero_le h0
  have hk : k < xs.length := by omega
  exact ⟨xs[k], List.getElem_mem hk, atI_nat1 (by simp [hk])⟩
section
variable {α : Type} {f : α → PV} {Q : Str → α → Prop} {n : Nat} {c : Cell}
def kvP (f : α → PV) (ms : List (Str × α)) : List (Key × PV) := ms.map fun r => (.inr r.1, f r.2)
def SD (f : α → PV) (Q : Str → α → Prop) (n : Nat) (c : Cell) : Prop := ∃ ms : List (Str × α), c = .dk (kvP f ms) ∧ (ms.map (·.1)).Nodup ∧ ms.length ≤ n ∧ ∀ r ∈ ms, Q r.1 r.2
theorem SD.nil : SD f Q 0 (.dk []) := ⟨[], rfl, by simp, by simp, by simp⟩
theorem SD.mono {m : Nat} (h : SD f Q n c) (hm : n ≤ m) : SD f Q m c := by
  obtain ⟨ms, h1, h2, h3, h4⟩ := h
  exact ⟨ms, h1, h2, Nat.le_trans h3 hm, h4⟩
def putA (ms : List (Str × α)) (k : Str) (a : α) : List (Str × α) := if (ms.any fun r => decide (r.1 = k)) = true then ms.map fun r => if r.1 = k then (r.1, a) else r else ms ++ [(k, a)]
theorem kvP_put (ms : List (Str × α)) (k : Str) (a : α) : put (kvP f ms) (.inr k) (f a) = kvP f (putA ms k a) := by
  unfold put putA kvP
  have e : ((ms.map fun r => ((.inr r.1 : Key), f r.2)).any fun kv => decide (kv.1 = (.inr k : Key))) = ms.any fun r => decide (r.1 = k) := by
    rw [List.any_map]
    congr 1
    funext r
    simp
  rw [e]
  split
  · rw [List.map_map, List.map_map]
    refine List.map_congr_left fun r hr => ?_
    by_cases h : r.1 = k
    · simp [h]
    · have h' : ¬ ((.inr r.1 : Key) = .inr k) := fun q => h (Sum.inr.inj q)
      simp [h, h']
  · simp
theorem putA_keys (ms : List (Str × α)) (k : Str) (a : α) : (putA ms k a).map (·.1) = if k ∈ ms.map (·.1) then ms.map (·.1) else ms.map (·.1) ++ [k] := by
  unfold putA
  by_cases h : k ∈ ms.map (·.1)
  · have : (ms.any fun r => decide (r.1 = k)) = true := by
      obtain ⟨r, hr, rfl⟩ := List.mem_map.mp h
      exact List.any_eq_true.mpr ⟨r, hr, by simp⟩
    rw [if_pos this, if_pos h, List.map_map]
    refine List.map_congr_left fun r hr => ?_
    by_cases q : r.1 = k <;> simp [q]
  · have : ¬ (ms.any fun r => decide (r.1 = k)) = true := fun q => by
      obtain ⟨r, hr, e⟩ := List.any_eq_true.mp q
      exact h (List.mem_map.mpr ⟨r, hr, by simpa using e⟩)
    rw [if_neg this, if_neg h]
    simp
theorem putA_mem {ms : List (Str × α)} {k : Str} {a : α} {r : Str × α} (h : r ∈ putA ms k a) : r = (k, a) ∨ r ∈ ms := by
  unfold putA at h
  split at h
  · obtain ⟨x, hx, rfl⟩ := List.mem_map.mp h
    by_cases q : x.1 = k
    · left; simp [q]
    · right; simpa [q] using hx
  · rcases List.mem_append.mp h with q | q
    · exact .inr q
    · exact .inl (by simpa using q)
theorem putA_length (ms : List (Str × α)) (k : Str) (a : α) : (putA ms k a).length ≤ ms.length + 1 := by
  unfold putA
  split <;> simp
theorem SD.put {kt : Bool} {k : Str} {a : α} (h : SD f Q n c) (hn : n < 100000) (hq : Q k a) : ∃ c', setC kt c (.str k) (f a) = some c' ∧ SD f Q (n + 1) c' := by
  obtain ⟨ms, rfl, h2, h3, h4⟩ := h
  refine ⟨.dk (kvP f (putA ms k a)), ?_, putA ms k a, rfl, ?_, ?_, fun r hr => ?_⟩
  · show (if (kvP f ms).length < sizeLine then (keyOf (.str k)).map fun k => Cell.dk (Fx.put (kvP f ms) k (f a)) else none) = _
    have hz : (kvP f ms).length < sizeLine := Nat.lt_of_lt_of_le (by unfold kvP; rw [List.length_map]; omega) (by decide : 100000 ≤ sizeLine)
    rw [if_pos hz]
    show some (Cell.dk (Fx.put (kvP f ms) (.inr k) (f a))) = _
    rw [kvP_put]
  · rw [putA_keys]
    split
    · exact h2
    · rename_i hk
      rw [List.nodup_append]
      exact ⟨h2, by simp, fun x hx y hy e => hk (by rw [List.mem_singleton.mp hy] at e; rw [← e]; exact hx)⟩
  · exact Nat.le_trans (putA_length ms k a) (by omega)
  · rcases putA_mem hr with q | q
    · rw [q]; exact hq
    · exact h4 r q
theorem look_mem : ∀ {ms : List (Str × α)}, (ms.map (·.1)).Nodup → ∀ r ∈ ms, look (kvP f ms) (.inr r.1) = some (f r.2)
  | [], _, r, h => by simp at h
  | x :: ms, hn, r, h => by
    have hn' := List.nodup_cons.mp (show (x.1 :: ms.map (·.1)).Nodup from hn)
    unfold look kvP
    rw [List.map_cons, List.find?_cons]
    rcases List.mem_cons.mp h with e | e
    · rw [e]; simp
    · have ne : ¬ ((.inr x.1 : Key) = .inr r.1) := fun q => hn'.1 (by rw [Sum.inr.inj q]; exact List.mem_map.mpr ⟨r, e, rfl⟩)
      have := look_mem hn'.2 r e
      unfold look kvP at this
      simp only [ne, decide_false]
      exact this
theorem strKeys_kvP : ∀ ms : List (Str × α), strKeys (kvP f ms) = some (ms.map (·.1))
  | [] => rfl
  | x :: ms => by
    show (strKeys (kvP f ms)).map (x.1 :: ·) = _
    rw [strKeys_kvP ms]
    rfl
def ltS (x y : Str) : Bool := decide (x.cps.toList < y.cps.toList)
/-- sorted(d), and what stands behind each key -/
theorem SD.sorted {kt : Bool} {L : Store} (h : SD f Q n c) (hn : n < 64) : ∃ ms : List (Str × α), (ms.map (·.1)).Pairwise (fun a b => ltS a b = true) ∧ ms.length ≤ n ∧ (∀ r ∈ ms, Q r.1 r.2) ∧
    nSorted L (.o c) = some (.lst (ms.map fun r => .str r.1)) ∧ ∀ r ∈ ms, hIx kt L (.o c) (.str r.1) = some (f r.2) := by
  obtain ⟨ms, rfl, h2, h3, h4⟩ := h
  have hp := sortS_perm (ms.map (·.1))
  have hs := sortS_sorted (ms.map (·.1))
  have hnd : (sortS (ms.map (·.1))).Nodup := hp.nodup_iff.mpr h2
  -- each key's row
  have row : ∀ k ∈ sortS (ms.map (·.1)), ∃ a, (k, a) ∈ ms := fun k hk => by
    obtain ⟨r, hr, rfl⟩ := List.mem_map.mp (hp.mem_iff.mp hk)
    exact ⟨r.2, hr⟩
  have build : ∀ ks : List Str, (∀ k ∈ ks, ∃ a, (k, a) ∈ ms) → ∃ ns : List (Str × α), ns.map (·.1) = ks ∧ ∀ r ∈ ns, r ∈ ms := by
    intro ks
    induction ks with
    | nil => exact fun _ => ⟨[], rfl, by simp⟩
    | cons k ks ih =>
      intro hk
      obtain ⟨a, ha⟩ := hk k (by simp)
      obtain ⟨ns, e, hns⟩ := ih fun x hx => hk x (List.mem_cons_of_mem k hx)
      exact ⟨(k, a) :: ns, by simp [e], fun r hr => by
        rcases List.mem_cons.mp hr with q | q
        · rw [q]; exact ha
        · exact hns r q⟩
  obtain ⟨ns, e, hns⟩ := build _ row
  have hlen : ns.length = ms.length := by
    have := congrArg List.length e
    rw [List.length_map, hp.length_eq, List.length_map] at this
    exact this
  refine ⟨ns, ?_, by omega, fun r hr => h4 r (hns r hr), ?_, fun r hr => ?_⟩
  · rw [e]
    have hboth := hs.and hnd
    refine hboth.imp fun {a b} ⟨hle, hne⟩ => ?_
    unfold ltS
    simp only [decide_eq_true_eq]
    unfold leS at hle
    simp only [decide_eq_true_eq] at hle
    rcases List.le_iff_lt_or_eq.mp hle with q | q
    · exact q
    · exact absurd (str_ext q) hne
  · unfold nSorted
    rw [view_odk]
    dsimp only
    rw [strKeys_kvP]
    dsimp only
    rw [if_pos (by rw [List.length_map]; omega), ← e, List.map_map]
    rfl
  · have := look_mem (f := f) h2 r (hns r hr)
    unfold hIx
    rw [view_odk]
    show (match dLook' kt (.dk (kvP f ms)) (.str r.1) with
      | some (some v) => some v
      | _ => none) = _
    have hd : dLook' kt (.dk (kvP f ms)) (.str r.1) = some (some (f r.2)) := by
      show dLook (.dk (kvP f ms)) (.str r.1) = _
      show (keyOf (.str r.1)).map (fun k => look (kvP f ms) k) = _
      show some (look (kvP f ms) (.inr r.1)) = _
      rw [this]
    rw [hd]
end
end Fx

set_option Elab.async false
set_option linter.all false
set_option maxRecDepth 100000
set_option maxHeartbeats 1000000
/-! Fx part 19: the law's end, for some store. -/
namespace Fx
open PySem L2
def spEnd (K : PySem.W.Frag) (g : DS) : Sp := fun vs H Q _ => ∃ (a : Addr) (ns : List Int) (L' : Store), vs = [.ref a] ∧ Only H ∧ SqL K H a (ns.map V.int) ∧ g [.scr ns] [] = some (.ok (.bl true) L') ∧ ∀ H', Q (.bl true) H'
theorem end_lawE {K : PySem.W.Frag} {mg : Str → Option Value} {kt : Bool} {g : DS} {P : Program} {w : World} {base : Heap} {CX : CXT} {k : Nat} {fa : Addr} {fd : FuncData}
    (F : FnOk P w K mg base CX k fa fd ["script"] (spG ⟨K, mg, kt⟩ 1 g)) : FnOk P w K mg base CX k fa fd ["script"] (spEnd K g) := by
  refine F.imp fun vs H Q E ⟨a, ns, L', e, ho, hs, hg, q⟩ => ?_
  subst e
  refine ⟨[], [], [.scr ns], ⟨rfl, List.nodup_nil, fun n c a h => by simp at h⟩, ⟨_, _, rfl, ⟨a, rfl, ?_⟩, rfl⟩, rfl, ?_⟩
  · rcases hs with (h | ⟨o, h⟩) | h
    · rcases ho a with q | ⟨o, xs, q⟩
      · rw [h] at q; cases q
      · rw [h] at q; cases q
    · exact .inl ⟨by simp, o, h⟩
    · exact .inr h
  · rw [hg]
    intro ρ' H' b _ _ r
    obtain rfl : b = .bl true := r
    exact q H'
end Fx

set_option Elab.async false
set_option linter.all false
set_option maxRecDepth 100000
set_option maxHeartbeats 1000000
/-! Fx part 20: dict(pairs), the pairs in a tuple. -/
namespace FT
open PySem PySem.Spec PyProof.Rows L2 HT
section
variable {X : Cx}
/-- a tuple whose object is known, and has no dict of its own -/
def DT (K : PySem.W.Frag) (H : Hp) (a : Addr) (vs : List V) : Prop := (∃ o : Obj, o.dict = none ∧ H a = some (.frz o (.tup vs))) ∨ Fx.KTup K a vs
theorem DT.at {pins : List (Addr × Obj)} {σ : L2.St} {H : Hp} {s : Shared} {a : Addr} {vs : List V} (I : L2.Inv X pins σ H s) (h : DT X.K H a vs) : ∃ (o : Obj) (its : List Value) (n : Nat), s.heap.get? a = some o ∧ o.cls = .type "tuple" ∧ o.dict = none ∧ o.data = .seq its.toArray n ∧ Vals vs its ∧ vs.length ≤ sizeLine := by
  rcases h with ⟨o, hd, hq⟩ | ⟨o, its, n, hk, hc, hd, hs, hz, r⟩
  · obtain ⟨ho, z, its, rv, o2, ho2, hc, n, hdat⟩ := I.hok a _ hq
    rw [ho] at ho2
    cases ho2
    exact ⟨o, its, n, ho, hc, hd, hdat, rv, z⟩
  · refine ⟨o, its.toList, n, I.kIn a o hk, hc, hd, by simpa using hs, r, ?_⟩
    have := r.length
    rw [this]
    simpa using hz
theorem call_dictT (hcalm : X.calm = true) : CallR X (.type "dict") (fun xs H Q => ∃ (a : Addr) (ps : List Addr) (kvs : List (Key × V)), xs = [.ref a] ∧ DT X.K H a (ps.map V.ref) ∧ Paired (fun p kv => SqT X.K H p [kV kv.1, kv.2]) ps kvs ∧
    ∀ p, H p = none → Q (.ref p) (upd H p (.dK (mergeK [] kvs)))) := by
  intro pins s σ H xs us Q I r q
  obtain ⟨a, ps, kvs, ex, hq, hp, q⟩ := q
  subst ex
  obtain ⟨u, eu, rx⟩ := vals1 r
  subst eu
  cases rx
  obtain ⟨o, its, n, ho, hc, hd, hdat, rv, z⟩ := hq.at I
  have ei := refs_at rv
  subst ei
  obtain ⟨prs, rel, hl, hpr⟩ := pairs_of I hp
  rw [List.length_map] at z
  have ch : ∀ j : Fin prs.length, ∃ r : Value × Value, (∃ b, ps[j.val]? = some b ∧ IsTup s.heap b #[r.1, r.2]) ∧ keyIs prs[j].1 r.1 = true ∧ r.2 = prs[j].2 := fun j => by
    obtain ⟨b, u, e1, e2, e3⟩ := hpr j.val prs[j] (by simp)
    exact ⟨(u, prs[j].2), ⟨b, e1, e2⟩, e3, rfl⟩
  have hj : ∀ (j : Nat) (k v : Value), (List.ofFn fun j : Fin prs.length => (ch j).choose)[j]? = some (k, v) → ∃ hj : j < prs.length, (ch ⟨j, hj⟩).choose = (k, v) := fun j k v e => by
    obtain ⟨h1, h2⟩ := List.getElem?_eq_some_iff.mp e
    rw [List.length_ofFn] at h1
    rw [List.getElem_ofFn] at h2
    exact ⟨h1, h2⟩
  have hlen : (mergeK [] kvs).length ≤ sizeLine := by
    refine Nat.le_trans (length_mergeK kvs []) ?_
    rw [List.length_nil, Nat.zero_add, rel.length, hl]
    exact z
  refine PySem.call_dict_pairs (knd := mixKind X.prog X.w) (kvs := prs) (PairArg.tuple a (ps.map Value.ref).toArray (fun j => (ps[j]?).getD 0) (List.ofFn fun j : Fin prs.length => (ch j).choose)) (I.ok.hd hcalm)
    ⟨⟨o, n, ho, hc, hd, hdat⟩, by simp [hl], fun j k v e => ?_⟩ ⟨by simp, fun i key v e => ?_⟩ (by rw [List.length_ofFn, hl]; exact z) fun h' tk hd' k => ?_
  · obtain ⟨h1, h2⟩ := hj j k v e
    obtain ⟨⟨b, e1, e2⟩, _⟩ := (ch ⟨j, h1⟩).choose_spec
    rw [h2] at e2
    have e1 : ps[j]? = some b := e1
    refine ⟨by simp [e1], .inl ?_⟩
    show s.heap.IsTuple ((ps[j]?).getD 0) _
    rw [e1]
    exact e2
  · obtain ⟨h1, h2⟩ := hj i key v e
    obtain ⟨_, e3, e4⟩ := (ch ⟨i, h1⟩).choose_spec
    rw [h2] at e3 e4
    have e4 : v = prs[i].2 := e4
    exact ⟨prs[i].1, by rw [e4]; simp [h1], e3⟩
  · have hm : (s.heap.objs.size == sysModules) = false := beq_eq_false_iff_ne.mpr (Nat.ne_of_gt I.big)
    exact ⟨.ref s.heap.objs.size, upd H s.heap.objs.size (.dK (mergeK [] kvs)), I.laid (t' := tk) (fun b ob e => k b ob (by simp) e) (Nat.le_refl _) (show ObjOk X.prog X.w _ _ _ (.dK (mergeK [] kvs)) from ⟨hlen, hm, merged [] prs, KV.merge rel .nil, hd'⟩), rfl, q _ (I.hok.fresh (Nat.le_refl _))⟩
end
end FT
namespace Fx
open PySem L2
def pairsOf : List PV → Option (List (Key × PV))
  | [] => some []
  | .tup [k, v] :: r => match keyOf k with
    | some kk => (pairsOf r).map ((kk, v) :: ·)
    | none => none
  | _ :: _ => none
def mergeP (kvs : List (Key × PV)) : List (Key × PV) := kvs.foldl (fun acc kv => put acc kv.1 kv.2) []
theorem pairs_rep {G : Gx} {ρ : List Addr} {H : Hp} : ∀ {xs : List PV} {vs : List V} {kvs : List (Key × PV)}, pairsOf xs = some kvs → Reps G ρ H xs vs → ∃ (ps : List Addr) (l : List (Key × V)), vs = ps.map V.ref ∧ Paired (fun p kv => SqT G.K H p [kV kv.1, kv.2]) ps l ∧ DRep G ρ H kvs l
  | [], vs, kvs, e, h => by
    cases e
    rw [show vs = [] from h]
    exact ⟨[], [], rfl, .nil, DRep.nil⟩
  | x :: xs, vs, kvs, e, h => by
    obtain ⟨v, r, rfl, h1, h2⟩ := h
    unfold pairsOf at e
    split at e
    · rename_i e0; cases e0
    · rename_i k w r' e0
      cases e0
      cases hk : keyOf k with
      | none => rw [hk] at e; cases e
      | some kk =>
        rw [hk] at e
        dsimp only at e
        cases hr : pairsOf xs with
        | none => rw [hr] at e; cases e
        | some kvs' =>
          rw [hr] at e
          cases e
          obtain ⟨ps, l, rfl, hp, hd⟩ := pairs_rep hr h2
          obtain ⟨a, us, rfl, ha, kv, us', rfl, q1, wv, us'', rfl, q2, q3⟩ := h1
          have q3 : us'' = [] := q3
          subst q3
          have := keyOf_rep q1 hk
          subst this
          exact ⟨a :: ps, (kk, wv) :: l, rfl, .cons (KTup.sq ha) hp, DRep.cons q2 hd⟩
    · cases e
theorem merge_rep {G : Gx} {ρ : List Addr} {H : Hp} : ∀ {kvs : List (Key × PV)} {l : List (Key × V)} {acc : List (Key × PV)} {m : List (Key × V)}, DRep G ρ H kvs l → DRep G ρ H acc m → DRep G ρ H (kvs.foldl (fun acc kv => put acc kv.1 kv.2) acc) (mergeK m l)
  | [], l, acc, m, h, k => by
    have : l = [] := by
      have := h.length
      exact List.eq_nil_of_length_eq_zero (by simpa using this.symm)
    subst this
    exact k
  | p :: kvs, l, acc, m, h, k => by
    obtain ⟨v, r, rfl, h1, h2⟩ := h.cons_inv
    show DRep G ρ H (kvs.foldl (fun acc kv => put acc kv.1 kv.2) (put acc p.1 p.2)) (mergeK (putK m p.1 v) r)
    exact merge_rep h2 (k.put h1)
/-- dict(x): pairs in a tuple (kt), in a list; a dict -/
def nDict (kt : Bool) (L : Store) : Hd → Option Cell
  | .v (.tup xs) => (pairsOf xs).map fun kvs => .dk (mergeP kvs)
  | x => match view L x with
    | some (.lst xs) => (pairsOf xs).map fun kvs => .dk (mergeP kvs)
    | some (.dk kvs) => some (.dk kvs)
    | _ => none
theorem Cell.newD {G : Gx} {ρ : List Addr} {H : Hp} {L : Store} {p : Addr} {kvs : List (Key × PV)} {l : List (Key × V)} (t : Rst G ρ L H) (h : DRep G ρ H kvs l) (hp : H p = none) :
    Ext ρ ρ H (upd H p (.dK l)) ∧ Rst G ρ L (upd H p (.dK l)) ∧ p ∉ ρ ∧ CRep G ρ (upd H p (.dK l)) p (.dk kvs) :=
  ⟨Ext.new hp, t.new hp, t.fresh hp, l, upd_same, h.1, h.2.mono (Ext.new hp).toStb⟩
def rDict (K : PySem.W.Frag) : List V → Hp → VK → Prop := fun xs H Q =>
  ((∃ (a : Addr) (ps : List Addr) (kvs : List (Key × V)), xs = [.ref a] ∧ FT.DT K H a (ps.map V.ref) ∧ Paired (fun p kv => SqT K H p [kV kv.1, kv.2]) ps kvs ∧ ∀ p, H p = none → Q (.ref p) (upd H p (.dK (mergeK [] kvs)))) ∨
  (∃ (a : Addr) (ps : List Addr) (kvs : List (Key × V)), xs = [.ref a] ∧ SqL K H a (ps.map V.ref) ∧ Paired (fun p kv => SqT K H p [kV kv.1, kv.2]) ps kvs ∧ ∀ p, H p = none → Q (.ref p) (upd H p (.dK (mergeK [] kvs))))) ∨
  ∃ (a : Addr) (kvs : List (Key × V)), xs = [.ref a] ∧ Rd H a (.dK kvs) ∧ ∀ p, H p = none → Q (.ref p) (upd H p (.dK kvs))
theorem call_dictAll {X : Cx} (hc : X.calm = true) : CallR X (.type "dict") (rDict X.K) := ((FT.call_dictT hc).or (call_dictP hc)).or call_dictD
theorem cn_dict {G : Gx} {K : PySem.W.Frag} {kt : Bool} (hK : G.K = K) (hkt : G.kt = kt) : CalN G (nDict kt) (rDict K) := by
  subst hK hkt
  intro ρ L H x v z Q t hx hz k
  have other : ∀ z, (match view L x with
    | some (.lst xs) => (pairsOf xs).map fun kvs => Cell.dk (mergeP kvs)
    | some (.dk kvs) => some (.dk kvs)
    | _ => none) = some z → (∀ (ρ1 : List Addr) (H1 : Hp) (p : Addr), Ext ρ ρ1 H H1 → Rst G ρ1 L H1 → p ∉ ρ1 → H p = none → CRep G ρ1 H1 p z → Q (.ref p) H1) → rDict G.K [v] H Q := fun z hz k => by
    cases hw : view L x with
    | none => rw [hw] at hz; cases hz
    | some vw =>
      rw [hw] at hz
      have hr := view_rep t hx hw
      cases vw with
      | lst xs =>
        dsimp only at hz
        cases hp : pairsOf xs with
        | none => rw [hp] at hz; cases hz
        | some kvs =>
          rw [hp] at hz
          cases hz
          obtain ⟨a, vs, rfl, ha, hs⟩ := hr
          obtain ⟨ps, l, rfl, h1, h2⟩ := pairs_rep hp hs
          refine .inl (.inr ⟨a, ps, l, rfl, .inl ha, h1, fun p hp => ?_⟩)
          obtain ⟨k1, k2, k3, k4⟩ := Cell.newD t (merge_rep h2 (DRep.nil)) hp
          exact k ρ _ p k1 k2 k3 hp k4
      | dk kvs =>
        cases hz
        obtain ⟨a, l, rfl, ha, hs⟩ := hr
        refine .inr ⟨a, l, rfl, ha, fun p hp => ?_⟩
        obtain ⟨k1, k2, k3, k4⟩ := Cell.newD t hs hp
        exact k ρ _ p k1 k2 k3 hp k4
      | _ => cases hz
  unfold nDict at hz
  split at hz
  · rename_i xs
    cases hp : pairsOf xs with
    | none => rw [hp] at hz; cases hz
    | some kvs =>
      rw [hp] at hz
      cases hz
      obtain ⟨a, vs, rfl, ha, hs⟩ := hx
      obtain ⟨ps, l, rfl, h1, h2⟩ := pairs_rep hp hs
      refine .inl (.inl ⟨a, ps, l, rfl, ?_, h1, fun p hp => ?_⟩)
      · rcases ha with ⟨q, _⟩ | ⟨_, ⟨_, o, hd, h⟩ | ⟨_, h⟩⟩
        · have : FT.plK (ps.map V.ref) = false := by cases ps <;> rfl
          unfold FT.frzT at q
          rw [this] at q
          cases hk : G.kt <;> (rw [hk] at q; cases q)
        · exact .inl ⟨o, hd, h⟩
        · exact .inr h
      · obtain ⟨k1, k2, k3, k4⟩ := Cell.newD t (merge_rep h2 (DRep.nil)) hp
        exact k ρ _ p k1 k2 k3 hp k4
  · exact other z hz k
theorem nv_dict {X : Cx} {c : FC} {kt : Bool} {a : Expr} {f : FF Hd} {p pos : Pos} (hc : X.calm = true) (hk : c.kt = kt) (hg : Gl X "dict") (hm : X.mg "dict" = none) (ha : HV X c a f) (he : starEach (a :: []) X.env = (false, eval a X.env) :: starEach [] X.env := by rfl) : NV X c (.Call (.Name "dict" p) [a] [] pos) (nCall1 (nDict kt) f) :=
  nv_cT (call_dictAll hc) (cn_dict rfl hk) hg hm (by decide +kernel) ha (by decide) (by decide) he
end Fx

set_option Elab.async false
set_option linter.all false
set_option maxRecDepth 100000
set_option maxHeartbeats 1000000
/-! Fx part 21: a def read where no written tuples occur, called where they may. -/
namespace Fx
open PySem L2
mutual
def noTup : PV → Bool
  | .tup _ => false
  | .lst xs => noTups xs
  | .dk _ xs => noTups xs
  | .dt _ xs => noTups xs
  | _ => true
def noTups : List PV → Bool
  | [] => true
  | x :: xs => noTup x && noTups xs
end
def noTupC : Cell → Bool
  | .lst xs => noTups xs
  | .dk kvs => noTups (kvs.map (·.2))
  | .dt kvs => noTups (kvs.map (·.2))
  | .ins _ fs => noTups (fs.map (·.2))
def noTupL (L : Store) : Bool := L.all noTupC
mutual
theorem rep_kt {K : PySem.W.Frag} {mg : Str → Option Value} {a b : Bool} {ρ : List Addr} {H : Hp} : ∀ {x : PV} {v : V}, noTup x = true → Rep ⟨K, mg, a⟩ ρ H x v → Rep ⟨K, mg, b⟩ ρ H x v
  | .non, v, _, h => h
  | .bl _, v, _, h => h
  | .int _, v, _, h => h
  | .str _, v, _, h => h
  | .tup _, v, n, _ => by simp [noTup] at n
  | .lst xs, v, n, h => by
    obtain ⟨a, o, vs, rfl, h1, h2, h3⟩ := h
    exact ⟨a, o, vs, rfl, h1, h2, reps_kt (by simpa [noTup] using n) h3⟩
  | .dk ks xs, v, n, h => by
    obtain ⟨a, o, l, rfl, h1, h2, h3, h4⟩ := h
    exact ⟨a, o, l, rfl, h1, h2, h3, reps_kt (by simpa [noTup] using n) h4⟩
  | .dt ks xs, v, n, h => by
    obtain ⟨a, o, l, rfl, h1, h2, h3, h4⟩ := h
    exact ⟨a, o, l, rfl, h1, h2, h3, reps_kt (by simpa [noTup] using n) h4⟩
  | .loc _, v, _, h => h
  | .scr _, v, _, h => h
theorem reps_kt {K : PySem.W.Frag} {mg : Str → Option Value} {a b : Bool} {ρ : List Addr} {H : Hp} : ∀ {xs : List PV} {vs : List V}, noTups xs = true → Reps ⟨K, mg, a⟩ ρ H xs vs → Reps ⟨K, mg, b⟩ ρ H xs vs
  | [], vs, _, h => h
  | x :: xs, vs, n, h => by
    have n : noTup x = true ∧ noTups xs = true := by simpa [noTups] using n
    obtain ⟨v, r, rfl, h1, h2⟩ := h
    exact ⟨v, r, rfl, rep_kt n.1 h1, reps_kt n.2 h2⟩
end
theorem crep_kt {K : PySem.W.Frag} {mg : Str → Option Value} {a b : Bool} {ρ : List Addr} {H : Hp} {p : Addr} : ∀ {c : Cell}, noTupC c = true → CRep ⟨K, mg, a⟩ ρ H p c → CRep ⟨K, mg, b⟩ ρ H p c
  | .lst xs, n, ⟨vs, h1, h2⟩ => ⟨vs, h1, reps_kt n h2⟩
  | .dk kvs, n, ⟨l, h1, h2, h3⟩ => ⟨l, h1, h2, reps_kt n h3⟩
  | .dt kvs, n, ⟨l, h1, h2, h3⟩ => ⟨l, h1, h2, reps_kt n h3⟩
  | .ins C fs, n, ⟨c, dx, l, h1, h2, h3, h4⟩ => ⟨c, dx, l, h1, h2, h3, reps_kt n h4⟩
theorem rst_kt {K : PySem.W.Frag} {mg : Str → Option Value} {a b : Bool} {ρ : List Addr} {L : Store} {H : Hp} (n : noTupL L = true) (h : Rst ⟨K, mg, a⟩ ρ L H) : Rst ⟨K, mg, b⟩ ρ L H :=
  ⟨h.len, h.nd, fun i c p e q => crep_kt (List.all_eq_true.mp n c (List.mem_of_getElem? e)) (h.cell i c p e q)⟩
def eCallX (n : Nat) (g : DS) (fa : AF) : EF := fun s L => bnd (fa s L) fun args L1 => if args.length = n ∧ noTups args = true ∧ noTupL L1 = true then match g args L1 with
  | some (.ok v L2) => if noTup v = true ∧ noTupL L2 = true then some (.ok v L2) else none
  | _ => none else none
theorem ev_clX {X : Cx} {c : FC} {k n : Nat} {f : Addr} {fd : FuncData} {ps : List Str} {g : DS} {x : Str} {p pos : Pos} {e : Expr} {es : List Expr} {fa : AF} (F : FnOk X.prog X.w X.K X.mg X.base CX0 k f fd ps (spG (gx X false) n g)) (hr : Room k X.A) (hg : Gl X x) (hm : X.mg x = some (.ref f)) (hk : PySem.W.keepIn X.K (.ref f) = true) (hb : Binds X.K fd ps [])
    (ha : AV X c (e :: es) fa) (hdb : (x == ("__debug__" : Str)) = false := by decide) (he : starEach (e :: es) X.env = (false, eval e X.env) :: starEach es X.env := by rfl) (hpl : (backTo pos (starEach es X.env)).any (·.1) = false := by rfl) :
    EV X c (.Call (.Name x p) (e :: es) [] pos) (eCallX n g fa) := by
  refine pe_imp (pe_call F hr hg hm hk hb .nil (E := E0) pass0 ha hdb he hpl) fun σ H Q q => ?_
  refine tOf.first (R := RA _) (R' := RE _) (k := fun s args L1 => if args.length = n ∧ noTups args = true ∧ noTupL L1 = true then match g args L1 with
    | some (.ok v L2) => if noTup v = true ∧ noTupL L2 = true then some (.ok v L2) else none
    | _ => none else none) q fun ρ L s args L1 ρ1 H1 vs r e1 q1 o => ?_
  split at o
  · rename_i hl
    refine ⟨ρ1, L1, args, rst_kt hl.2.2 r.st, ?_, hl.1, ?_⟩
    · rw [List.append_nil]
      exact reps_kt hl.2.1 q1
    · match hgg : g args L1, o with
      | some (.ok v L2), o =>
        dsimp only at o
        split at o
        · rename_i hn
          intro ρ' H' b ex t rv
          exact o ρ' H' b ex (rst_kt hn.2 t) (rep_kt hn.1 rv)
        · exact o.elim
      | some (.err y L2), o => exact o.elim
      | none, o => exact o.elim
  · exact o.elim
end Fx

set_option Elab.async false
set_option linter.all false
set_option maxRecDepth 100000
set_option maxHeartbeats 1000000
/-! Fx part 22: fractions in lowest terms. -/
namespace Fx
open PySem L2
abbrev Fr := Nat × Nat
/-- in lowest terms -/
def red (p q : Nat) : Fr := (p / Nat.gcd p q, q / Nat.gcd p q)
def frP (a : Fr) : PV := .tup [.int a.1, .int a.2]
/-- a fraction in lowest terms -/
def Low (a : Fr) : Prop := 0 < a.2 ∧ Nat.gcd a.1 a.2 = 1
theorem red_low {p q : Nat} (hq : 0 < q) : Low (red p q) := by
  have hg := Nat.gcd_pos_of_pos_right p hq
  refine ⟨Nat.div_pos (Nat.gcd_le_right p hq) hg, ?_⟩
  show Nat.gcd (p / Nat.gcd p q) (q / Nat.gcd p q) = 1
  rw [Nat.gcd_div (Nat.gcd_dvd_left p q) (Nat.gcd_dvd_right p q), Nat.div_self hg]
theorem red_self {a : Fr} (h : Low a) : red a.1 a.2 = a := by
  unfold red
  rw [h.2]
  simp
theorem red_cross {p q : Nat} (hq : 0 < q) : (red p q).1 * q = p * (red p q).2 := by
  have h1 := Nat.div_mul_cancel (Nat.gcd_dvd_left p q)
  have h2 := Nat.div_mul_cancel (Nat.gcd_dvd_right p q)
  show p / Nat.gcd p q * q = p * (q / Nat.gcd p q)
  generalize p / Nat.gcd p q = x at *
  generalize q / Nat.gcd p q = y at *
  calc x * q = x * (y * Nat.gcd p q) := by rw [h2]
    _ = (x * Nat.gcd p q) * y := by rw [Nat.mul_comm y, Nat.mul_assoc]
    _ = p * y := by rw [h1]
theorem low_unique {a b : Fr} (ha : Low a) (hb : Low b) (h : a.1 * b.2 = b.1 * a.2) : a = b := by
  obtain ⟨a1, a2⟩ := a
  obtain ⟨b1, b2⟩ := b
  obtain ⟨ha0, ha1⟩ := ha
  obtain ⟨hb0, hb1⟩ := hb
  dsimp only at *
  have d1 : a2 ∣ b2 := (Nat.Coprime.symm ha1).dvd_of_dvd_mul_left ⟨b1, by rw [h, Nat.mul_comm]⟩
  have d2 : b2 ∣ a2 := (Nat.Coprime.symm hb1).dvd_of_dvd_mul_left ⟨a1, by rw [← h, Nat.mul_comm]⟩
  have e := Nat.dvd_antisymm d1 d2
  subst e
  have := Nat.eq_of_mul_eq_mul_right ha0 h
  rw [this]
theorem red_eq {p q p' q' : Nat} (hq : 0 < q) (hq' : 0 < q') (h : p * q' = p' * q) : red p q = red p' q' := by
  refine low_unique (red_low hq) (red_low hq') ?_
  have h1 := red_cross (p := p) hq
  have h2 := red_cross (p := p') hq'
  have g : 0 < q * q' := Nat.mul_pos hq hq'
  refine Nat.eq_of_mul_eq_mul_right g ?_
  generalize (red p q).1 = x at *
  generalize (red p q).2 = y at *
  generalize (red p' q').1 = z at *
  generalize (red p' q').2 = w at *
  calc x * w * (q * q') = (x * q) * (w * q') := by simp [Nat.mul_comm, Nat.mul_left_comm]
    _ = p * y * (w * q') := by rw [h1]
    _ = (p * q') * (y * w) := by simp [Nat.mul_comm, Nat.mul_left_comm]
    _ = (p' * q) * (y * w) := by rw [h]
    _ = (p' * w) * (y * q) := by simp [Nat.mul_comm, Nat.mul_left_comm]
    _ = (z * q') * (y * q) := by rw [← h2]
    _ = z * y * (q * q') := by simp [Nat.mul_comm, Nat.mul_left_comm]
theorem red_zero {q : Nat} (hq : 0 < q) : red 0 q = (0, 1) := by
  unfold red
  rw [Nat.gcd_zero_left, Nat.zero_div, Nat.div_self hq]
theorem low_zero {a : Fr} (h : Low a) (h0 : a.1 = 0) : a = (0, 1) := by
  obtain ⟨a1, a2⟩ := a
  obtain ⟨_, h2⟩ := h
  dsimp only at *
  subst h0
  rw [Nat.gcd_zero_left] at h2
  rw [h2]
theorem red_pos {p q : Nat} (hp : 0 < p) (hq : 0 < q) : 0 < (red p q).1 := Nat.div_pos (Nat.gcd_le_left q hp) (Nat.gcd_pos_of_pos_right p hq)
/-- size -/
def Bd (k : Nat) (a : Fr) : Prop := a.1 < 2 ^ k ∧ a.2 < 2 ^ k
theorem Bd.mono {k m : Nat} {a : Fr} (h : Bd k a) (hm : k ≤ m) : Bd m a := ⟨Nat.lt_of_lt_of_le h.1 (Nat.pow_le_pow_right (by decide) hm), Nat.lt_of_lt_of_le h.2 (Nat.pow_le_pow_right (by decide) hm)⟩
theorem bd_red {p q k : Nat} (hp : p < 2 ^ k) (hq : q < 2 ^ k) : Bd k (red p q) := ⟨Nat.lt_of_le_of_lt (Nat.div_le_self _ _) hp, Nat.lt_of_le_of_lt (Nat.div_le_self _ _) hq⟩
theorem mul_lt {a b j k : Nat} (ha : a < 2 ^ j) (hb : b < 2 ^ k) : a * b < 2 ^ (j + k) := by
  rw [Nat.pow_add]
  exact Nat.mul_lt_mul'' ha hb
theorem two_add {a b k : Nat} (ha : a < 2 ^ k) (hb : b < 2 ^ k) : a + b < 2 ^ (k + 1) := by
  rw [Nat.pow_succ]
  omega
def addF (a b : Fr) : Fr := red (a.1 * b.2 + b.1 * a.2) (a.2 * b.2)
def mulF (a b : Fr) : Fr := red (a.1 * b.1) (a.2 * b.2)
def divF (a b : Fr) : Fr := red (a.1 * b.2) (a.2 * b.1)
def oneSub (a : Fr) : Fr := red (a.2 - a.1) a.2
theorem addF_low {a b : Fr} (ha : Low a) (hb : Low b) : Low (addF a b) := red_low (Nat.mul_pos ha.1 hb.1)
theorem mulF_low {a b : Fr} (ha : Low a) (hb : Low b) : Low (mulF a b) := red_low (Nat.mul_pos ha.1 hb.1)
theorem addF_bd {a b : Fr} {j k : Nat} (ha : Bd j a) (hb : Bd k b) : Bd (j + k + 1) (addF a b) := by
  refine bd_red (two_add (mul_lt ha.1 hb.2) ?_) (Nat.lt_trans (mul_lt ha.2 hb.2) (Nat.pow_lt_pow_right (by decide) (by omega)))
  have := mul_lt hb.1 ha.2
  rwa [Nat.add_comm k j] at this
theorem mulF_bd {a b : Fr} {j k : Nat} (ha : Bd j a) (hb : Bd k b) : Bd (j + k) (mulF a b) := bd_red (mul_lt ha.1 hb.1) (mul_lt ha.2 hb.2)
theorem divF_bd {a b : Fr} {j k : Nat} (ha : Bd j a) (hb : Bd k b) : Bd (j + k) (divF a b) := bd_red (mul_lt ha.1 hb.2) (mul_lt ha.2 hb.1)
/-- (w * s) / w = s -/
theorem div_mul {w s : Fr} (hw : Low w) (hs : Low s) (h0 : 0 < w.1) : divF (mulF w s) w = s := by
  have hm := red_cross (p := w.1 * s.1) (Nat.mul_pos hw.1 hs.1)
  have hl := mulF_low hw hs
  refine Eq.trans (red_eq (p' := s.1) (q' := s.2) (Nat.mul_pos hl.1 h0) hs.1 ?_) (red_self hs)
  show (mulF w s).1 * w.2 * s.2 = s.1 * ((mulF w s).2 * w.1)
  have hm : (mulF w s).1 * (w.2 * s.2) = w.1 * s.1 * (mulF w s).2 := hm
  rw [Nat.mul_assoc, hm]
  simp [Nat.mul_comm, Nat.mul_left_comm]
theorem zero_add {a : Fr} (h : Low a) : addF (0, 1) a = a := by
  unfold addF
  simp
  exact red_self h
end Fx

set_option Elab.async false
set_option linter.all false
set_option maxRecDepth 100000
set_option maxHeartbeats 1000000
/-! Fx part 23: sorted lists of pairs of ints. -/
namespace FT
open PySem PySem.Spec PyProof.Rows L2 HT
def adr : Value → Addr
  | .ref a => a
  | _ => 0
def leP (p q : Int × Int) : Prop := p.1 < q.1 ∨ (p.1 = q.1 ∧ p.2 ≤ q.2)
def rSortedQ (K : PySem.W.Frag) : List V → Hp → VK → Prop := fun vs H Q => ∃ (a : Addr) (ts : List Addr) (ks : List (Int × Int)), vs = [V.ref a] ∧ SqL K H a (ts.map V.ref) ∧ Paired (fun t (p : Int × Int) => SqT K H t [.int p.1, .int p.2]) ts ks ∧
  ∀ (zs : List (Addr × (Int × Int))) p, zs.Perm (ts.zip ks) → (zs.map (·.2)).Pairwise leP → H p = none → Q (.ref p) (upd H p (.lst (zs.map fun z => V.ref z.1)))
section
variable {X : Cx}
theorem paired_get {α β : Type} {R : α → β → Prop} : ∀ {l : List α} {m : List β}, Paired R l m → l.length = m.length ∧ ∀ p ∈ l.zip m, R p.1 p.2
  | _, _, .nil => ⟨rfl, fun p h => by simp at h⟩
  | _, _, .cons h t => by
    obtain ⟨e, g⟩ := paired_get t
    refine ⟨by simp [e], fun p hp => ?_⟩
    rw [List.zip_cons_cons] at hp
    rcases List.mem_cons.mp hp with q | q
    · rw [q]; exact h
    · exact g p q
theorem zip_map_eq {α β γ : Type} (f : α → γ) (k : α → β) : ∀ {l : List α} {m : List β}, l.length = m.length → (∀ p ∈ l.zip m, k p.1 = p.2) → l.zip m = l.map fun t => (t, k t)
  | [], m, _, _ => by simp
  | x :: l, [], h, _ => by simp at h
  | x :: l, y :: m, h, g => by
    rw [List.zip_cons_cons, List.map_cons, zip_map_eq f k (l := l) (m := m) (by simpa using h) fun p hp => g p (by rw [List.zip_cons_cons]; exact List.mem_cons_of_mem _ hp)]
    have := g (x, y) (by simp)
    rw [this]
open Classical in
theorem cr_sortedQ : CallR X (.builtin "sorted") (rSortedQ X.K) := by
  intro pins s σ H vs us Q I r h
  obtain ⟨a, ts, ks, rfl, hs, hp, q⟩ := h
  obtain ⟨its, rv, hl, hz⟩ := I.list hs
  obtain ⟨u, rfl, ru⟩ := vals1 r
  obtain rfl : u = Value.ref a := ru
  have ei := refs_at rv
  subst ei
  obtain ⟨hlen, hpp⟩ := paired_get hp
  let k : Value → Int × Int := fun u => if h : ∃ p : Int × Int, Srt.IsPair s.heap u p.1 p.2 then h.choose else (0, 0)
  have isp : ∀ p ∈ ts.zip ks, Srt.IsPair s.heap (.ref p.1) p.2.1 p.2.2 := fun p hm => by
    obtain ⟨its2, r2, ⟨o, ho, hc, n, hd⟩, _⟩ := I.tuple (hpp p hm)
    obtain ⟨u1, u2, rfl, ri, rj⟩ := vals2 r2
    obtain ⟨t1, rfl⟩ := ri
    obtain ⟨t2, rfl⟩ := rj
    exact ⟨p.1, o, t1, t2, n, rfl, ho, hc, hd⟩
  have uniq : ∀ (u : Value) (p q : Int × Int), Srt.IsPair s.heap u p.1 p.2 → Srt.IsPair s.heap u q.1 q.2 → p = q := fun u p q h1 h2 => by
    obtain ⟨t, o, t1, t2, n, rfl, ho, hc, hd⟩ := h1
    obtain ⟨t', o', t1', t2', n', e, ho', hc', hd'⟩ := h2
    cases e
    rw [ho] at ho'
    cases ho'
    rw [hd] at hd'
    injection hd' with e1 e2
    have e3 := congrArg Array.toList e1
    simp at e3
    exact Prod.ext e3.1.1 e3.2.1
  have hk : ∀ p ∈ ts.zip ks, k (.ref p.1) = p.2 := fun p hm => by
    have ex : ∃ q : Int × Int, Srt.IsPair s.heap (.ref p.1) q.1 q.2 := ⟨p.2, isp p hm⟩
    show (if h : ∃ q : Int × Int, Srt.IsPair s.heap (.ref p.1) q.1 q.2 then h.choose else (0, 0)) = _
    rw [dif_pos ex]
    exact uniq _ _ _ ex.choose_spec (isp p hm)
  have hzip := zip_map_eq (fun t => t) (fun t => k (.ref t)) hlen hk
  refine SrtO.sorted_pairsO (k := k) hl.isList (by rw [← rv.length]; exact hz) (fun v hv => ?_) fun h' d out h1 h2 kp hd hn => ?_
  · obtain ⟨t, ht, rfl⟩ := List.mem_map.mp hv
    have hm : (t, k (.ref t)) ∈ ts.zip ks := by rw [hzip]; exact List.mem_map.mpr ⟨t, ht, rfl⟩
    exact isp _ hm
  · have h3 : ∀ u ∈ out, u = Value.ref (adr u) := fun u hu => by
      obtain ⟨t, _, rfl⟩ := List.mem_map.mp (h2.perm.mem_iff.mp hu)
      rfl
    obtain ⟨n, hn⟩ := hn
    have eo : out = (out.map adr).map Value.ref := by
      rw [List.map_map]
      conv => lhs; rw [← List.map_id out]
      exact List.map_congr_left h3
    have pa : (out.map adr).Perm ts := by
      have := h2.perm.map adr
      rw [List.map_map] at this
      simpa [Function.comp_def, adr] using this
    refine ⟨.ref d, upd H d (.lst (((out.map adr).map fun t => (t, k (.ref t))).map fun z => V.ref z.1)), I.laid (t' := s.toks) kp hd ⟨?_, out, n, ?_, hn⟩, rfl, q _ d (by rw [hzip]; exact pa.map _) ?_ (I.hok.fresh hd)⟩
    · rw [List.length_map, List.length_map, List.length_map, h2.perm.length_eq, List.length_map]
      rw [List.length_map] at hz
      exact hz
    · rw [List.map_map]
      have e2 : ((fun z : Addr × (Int × Int) => V.ref z.1) ∘ fun t => (t, k (.ref t))) = V.ref := rfl
      rw [e2]
      conv => rhs; rw [eo]
      generalize out.map adr = l
      induction l with
      | nil => exact .nil
      | cons x l ih => exact .cons rfl ih
    · rw [List.map_map, List.map_map, List.pairwise_map]
      refine h1.imp_of_mem fun {x y} hx hy hxy => ?_
      show leP (k (.ref (adr x))) (k (.ref (adr y)))
      rw [← h3 x hx, ← h3 y hy]
      have := SrtO.lexB_no.mp hxy
      unfold leP
      omega
end
end FT
namespace Fx
open PySem L2
def pvPair (p : Int × Int) : PV := .tup [.int p.1, .int p.2]
def pairInts : List PV → Option (List (Int × Int))
  | [] => some []
  | .tup [.int i, .int j] :: r => (pairInts r).map ((i, j) :: ·)
  | _ :: _ => none
theorem pairInts_some : ∀ {xs : List PV} {ks : List (Int × Int)}, pairInts xs = some ks → xs = ks.map pvPair
  | [], ks, h => by cases h; rfl
  | x :: r, ks, h => by
    unfold pairInts at h
    split at h
    · rename_i e; cases e
    · rename_i i j r' e
      cases e
      cases hr : pairInts r with
      | none => rw [hr] at h; cases h
      | some ms =>
        rw [hr] at h
        cases h
        rw [pairInts_some hr]
        rfl
    · cases h
theorem pairInts_map : ∀ ks : List (Int × Int), pairInts (ks.map pvPair) = some ks
  | [] => rfl
  | k :: ks => by
    show (pairInts (ks.map pvPair)).map ((k.1, k.2) :: ·) = _
    rw [pairInts_map ks]
    rfl
def leB (p q : Int × Int) : Bool := decide (p.1 < q.1 ∨ (p.1 = q.1 ∧ p.2 ≤ q.2))
def sortPr (ks : List (Int × Int)) : List (Int × Int) := ks.mergeSort leB
theorem sortPr_perm (ks : List (Int × Int)) : (sortPr ks).Perm ks := List.mergeSort_perm _ _
theorem sortPr_sorted (ks : List (Int × Int)) : (sortPr ks).Pairwise FT.leP := by
  have := List.pairwise_mergeSort (le := leB) (fun a b c h1 h2 => by simp only [leB, decide_eq_true_eq] at *; omega) (fun a b => by simp only [leB, Bool.or_eq_true, decide_eq_true_eq]; omega) ks
  exact this.imp fun h => by simpa [leB, FT.leP] using h
theorem sortPr_eq {ys ks : List (Int × Int)} (h : ys.Perm ks) (s : ys.Pairwise FT.leP) : ys = sortPr ks :=
  List.Perm.eq_of_pairwise (le := FT.leP) (fun a b _ _ h1 h2 => by
    unfold FT.leP at h1 h2
    exact Prod.ext (by omega) (by omega)) s (sortPr_sorted ks) (h.trans (sortPr_perm ks).symm)
theorem pairs_paired {G : Gx} {ρ : List Addr} {H : Hp} : ∀ {ks : List (Int × Int)} {vs : List V}, Reps G ρ H (ks.map pvPair) vs → ∃ ts : List Addr, vs = ts.map V.ref ∧ Paired (fun t (p : Int × Int) => SqT G.K H t [.int p.1, .int p.2]) ts ks ∧ Paired (fun t p => Rep G ρ H (pvPair p) (.ref t)) ts ks
  | [], vs, h => ⟨[], h, .nil, .nil⟩
  | k :: ks, vs, h => by
    obtain ⟨v, r, rfl, h1, h2⟩ := h
    obtain ⟨ts, rfl, p1, p2⟩ := pairs_paired h2
    have h1' := h1
    obtain ⟨a, us, rfl, ha, v1, us1, rfl, e1, v2, us2, rfl, e2, e3⟩ := h1
    have e1 : v1 = .int k.1 := e1
    have e2 : v2 = .int k.2 := e2
    have e3 : us2 = [] := e3
    subst e1 e2 e3
    exact ⟨a :: ts, rfl, .cons (KTup.sq ha) p1, .cons h1' p2⟩
theorem reps_of_mem {G : Gx} {ρ : List Addr} {H : Hp} : ∀ zs : List (Addr × (Int × Int)), (∀ z ∈ zs, Rep G ρ H (pvPair z.2) (.ref z.1)) → Reps G ρ H ((zs.map (·.2)).map pvPair) (zs.map fun z => V.ref z.1)
  | [], _ => rfl
  | z :: zs, h => ⟨_, _, rfl, h z (by simp), reps_of_mem zs fun y hy => h y (List.mem_cons_of_mem z hy)⟩
def nSortedP (L : Store) (x : Hd) : Option Cell := match view L x with
  | some (.lst xs) => (pairInts xs).map fun ks => .lst ((sortPr ks).map pvPair)
  | _ => none
theorem cn_sortedP {G : Gx} {K : PySem.W.Frag} (hK : G.K = K) : CalN G nSortedP (FT.rSortedQ K) := by
  subst hK
  intro ρ L H x v z Q t hx hz k
  unfold nSortedP at hz
  cases hw : view L x with
  | none => rw [hw] at hz; cases hz
  | some vw =>
    rw [hw] at hz
    have hr := view_rep t hx hw
    cases vw with
    | lst xs =>
      dsimp only at hz
      cases hp : pairInts xs with
      | none => rw [hp] at hz; cases hz
      | some ks =>
        rw [hp] at hz
        cases hz
        have := pairInts_some hp
        subst this
        obtain ⟨a, vs, rfl, ha, hs⟩ := hr
        obtain ⟨ts, rfl, p1, p2⟩ := pairs_paired hs
        refine ⟨a, ts, ks, rfl, .inl ha, p1, fun zs p pm pw hn => ?_⟩
        obtain ⟨hlen, g⟩ := FT.paired_get p2
        have e : zs.map (·.2) = sortPr ks := sortPr_eq (by
          have := pm.map (·.2)
          rwa [List.map_snd_zip (by omega)] at this) pw
        have hrep := reps_of_mem (G := G) (ρ := ρ) (H := H) zs fun z hz => g z (pm.mem_iff.mp hz)
        rw [e] at hrep
        obtain ⟨k1, k2, k3, k4⟩ := Cell.new t hrep hn
        exact k ρ _ p k1 k2 k3 hn k4
    | _ => cases hz
theorem nv_sortedP {X : Cx} {c : FC} {a : Expr} {f : FF Hd} {p pos : Pos} (hg : Gl X "sorted") (hm : X.mg "sorted" = none) (ha : HV X c a f) (he : starEach (a :: []) X.env = (false, eval a X.env) :: starEach [] X.env := by rfl) : NV X c (.Call (.Name "sorted" p) [a] [] pos) (nCall1 nSortedP f) :=
  nv_cB FT.cr_sortedQ (cn_sortedP rfl) hg hm (by decide +kernel) ha (by decide) (by decide) he
end Fx

set_option Elab.async false
set_option linter.all false
set_option maxRecDepth 100000
set_option maxHeartbeats 1000000
/-! Fx part 24: what a fraction is worth. -/
namespace Fx
open PySem L2
def val (a : Fr) : Rat := (a.1 : Rat) / (a.2 : Rat)
theorem rat_pos {n : Nat} (h : 0 < n) : (n : Rat) ≠ 0 := fun e => by
  have : n = 0 := by exact_mod_cast e
  omega
theorem low_ext {a b : Fr} (ha : Low a) (hb : Low b) (h : val a = val b) : a = b := by
  refine low_unique ha hb ?_
  unfold val at h
  have h1 := rat_pos ha.1
  have h2 := rat_pos hb.1
  have h3 : (a.1 : Rat) * (b.2 : Rat) = (b.1 : Rat) * (a.2 : Rat) := by grind
  exact_mod_cast h3
theorem val_red {p q : Nat} (hq : 0 < q) : val (red p q) = (p : Rat) / (q : Rat) := by
  have hc := red_cross (p := p) hq
  have hl := (red_low (p := p) hq).1
  unfold val
  have h1 := rat_pos hq
  have h2 := rat_pos hl
  have h3 : ((red p q).1 : Rat) * (q : Rat) = (p : Rat) * ((red p q).2 : Rat) := by exact_mod_cast hc
  grind
theorem val_add {a b : Fr} (ha : Low a) (hb : Low b) : val (addF a b) = val a + val b := by
  unfold addF
  rw [val_red (Nat.mul_pos ha.1 hb.1)]
  have h1 := rat_pos ha.1
  have h2 := rat_pos hb.1
  unfold val
  push_cast
  grind
theorem val_mul {a b : Fr} (ha : Low a) (hb : Low b) : val (mulF a b) = val a * val b := by
  unfold mulF
  rw [val_red (Nat.mul_pos ha.1 hb.1)]
  have h1 := rat_pos ha.1
  have h2 := rat_pos hb.1
  unfold val
  push_cast
  grind
theorem val_div {a b : Fr} (ha : Low a) (hb : Low b) (h0 : 0 < b.1) : val (divF a b) = val a / val b := by
  unfold divF
  rw [val_red (Nat.mul_pos ha.1 h0)]
  have h1 := rat_pos ha.1
  have h2 := rat_pos hb.1
  have h3 := rat_pos h0
  unfold val
  push_cast
  grind
theorem val_one {a : Fr} (ha : Low a) (h : a.1 ≤ a.2) : val (oneSub a) = 1 - val a := by
  unfold oneSub
  rw [val_red ha.1]
  have h1 := rat_pos ha.1
  have h2 : ((a.2 - a.1 : Nat) : Rat) = (a.2 : Rat) - (a.1 : Rat) := by
    have e : a.2 = (a.2 - a.1) + a.1 := by omega
    have e2 : ((a.2 : Nat) : Rat) = ((a.2 - a.1 : Nat) : Rat) + (a.1 : Rat) := by
      conv => lhs; rw [e]
      push_cast
      rfl
    grind
  unfold val
  rw [h2]
  grind
theorem val_zero {a : Fr} (ha : Low a) : val a = 0 ↔ a = (0, 1) := by
  constructor
  · intro h
    refine low_zero ha ?_
    have h1 := rat_pos ha.1
    unfold val at h
    have h2 : (a.1 : Rat) = 0 := by grind
    exact_mod_cast h2
  · rintro rfl
    unfold val
    grind
theorem val_lt {a b : Fr} (ha : Low a) (hb : Low b) : val a < val b ↔ a.1 * b.2 < b.1 * a.2 := by
  have h1 : (0 : Rat) < (a.2 : Rat) := by exact_mod_cast ha.1
  have h2 : (0 : Rat) < (b.2 : Rat) := by exact_mod_cast hb.1
  unfold val
  rw [Rat.div_lt_iff h1]
  have e : (b.1 : Rat) / (b.2 : Rat) * (a.2 : Rat) = ((b.1 : Rat) * (a.2 : Rat)) / (b.2 : Rat) := by
    have := rat_pos hb.1
    grind
  rw [e, Rat.lt_div_iff h2]
  constructor
  · intro h
    exact_mod_cast h
  · intro h
    exact_mod_cast h
theorem val_le {a b : Fr} (ha : Low a) (hb : Low b) : val a ≤ val b ↔ a.1 * b.2 ≤ b.1 * a.2 := by
  have h := val_lt hb ha
  constructor
  · intro q
    by_cases h2 : a.1 * b.2 ≤ b.1 * a.2
    · exact h2
    · exact absurd (h.mpr (by omega)) (Rat.not_lt.mpr q)
  · intro q
    refine Rat.not_lt.mp fun r => ?_
    have := h.mp r
    omega
def subF (b a : Fr) : Fr := red (b.1 * a.2 - a.1 * b.2) (b.2 * a.2)
theorem val_sub {a b : Fr} (ha : Low a) (hb : Low b) (h : a.1 * b.2 ≤ b.1 * a.2) : val (subF b a) = val b - val a := by
  unfold subF
  rw [val_red (Nat.mul_pos hb.1 ha.1)]
  have h1 := rat_pos ha.1
  have h2 := rat_pos hb.1
  have h3 : ((b.1 * a.2 - a.1 * b.2 : Nat) : Rat) = (b.1 : Rat) * (a.2 : Rat) - (a.1 : Rat) * (b.2 : Rat) := by
    generalize hx : b.1 * a.2 = x at h
    generalize hy : a.1 * b.2 = y at h
    have e : x = (x - y) + y := by omega
    have e2 : ((x : Nat) : Rat) = ((x - y : Nat) : Rat) + (y : Rat) := by
      conv => lhs; rw [e]
      push_cast
      rfl
    have e3 : (x : Rat) = (b.1 : Rat) * (a.2 : Rat) := by rw [← hx]; push_cast; rfl
    have e4 : (y : Rat) = (a.1 : Rat) * (b.2 : Rat) := by rw [← hy]; push_cast; rfl
    grind
  rw [h3]
  unfold val
  push_cast
  grind
end Fx

set_option Elab.async false
set_option linter.all false
set_option maxRecDepth 100000
set_option maxHeartbeats 1000000
/-! Fx part 25: a, b = [..], y and a, b = x, [..]. -/
namespace Fx
open PySem L2
section
variable {X : Cx} {c : FC} {i j : Nat} {x y : Str} {a b : Expr} {f g : EF} {fc gc : CF} {px py pt pos : Pos} {kt k2 : Nat} {pt2 : Pos}
def sParO (i j : Nat) (fc : CF) (g : EF) : SF := fun s L => bnd (fc s L) fun v L1 => bnd (g s L1) fun w L2 => some (.ok (.nx ((s.set i (.own v)).set j (.val w))) L2)
def sParV (i j : Nat) (f : EF) (gc : CF) : SF := fun s L => bnd (f s L) fun v L1 => bnd (gc s L1) fun w L2 => some (.ok (.nx ((s.set i (.val v)).set j (.own w))) L2)
theorem es_parO (hc : X.calm = true) (hN : X.N.Nodup) (hi : X.N[i]? = some x) (hj : X.N[j]? = some y) (hij : i ≠ j)
    (hx : X.env.scope.names.lookup x = some .local) (hy : X.env.scope.names.lookup y = some .local) (ha : NV X c a fc) (hb : EV X c b g)
    (hw : swappedStores [.Tuple [.Name x px, .Name y py] kt pt] (.Tuple [a, b] k2 pt2) X.env = pure (some [x, y]))
    (hs : swapsWithSole [.Tuple [.Name x px, .Name y py] kt pt] (.Tuple [a, b] k2 pt2) pos.line X.env = pure false := by rfl) (he : starEach (a :: [b]) X.env = (false, eval a X.env) :: starEach [b] X.env := by rfl) (he' : starEach [b] X.env = (false, eval b X.env) :: starEach [] X.env := by rfl) :
    ES X c (.Assign [.Tuple [.Name x px, .Name y py] kt pt] (.Tuple [a, b] k2 pt2) pos) (sParO i j fc g) := ps_imp (ps_par hc hN hi hj hij hx hy (pa_cons ha (pa_cons hb pa_nil he') he) hw hs) fun D σ H q => by
  refine tS.first (R := RN _) (k := fun s v L1 => bnd (g s L1) fun w L2 => some (.ok (.nx ((s.set i (.own v)).set j (.val w))) L2)) q fun ρ L s v L1 ρ1 H1 u r e1 t1 q1 o => ?_
  refine ⟨ρ1, L1, s, r.go e1 t1, OuS.bind (R := RE _) o (r.ext.trans e1) fun w L2 ρ2 H2 u2 _ e2 t2 q2 o2 => ⟨u, u2, rfl, ?_⟩⟩
  exact o2 ρ2 H2 _ Stb.refl (((r.ownNew e1 t1 q1 i).go e2 t2).set q2)
theorem es_parV (hc : X.calm = true) (hN : X.N.Nodup) (hi : X.N[i]? = some x) (hj : X.N[j]? = some y) (hij : i ≠ j)
    (hx : X.env.scope.names.lookup x = some .local) (hy : X.env.scope.names.lookup y = some .local) (ha : EV X c a f) (hb : NV X c b gc)
    (hw : swappedStores [.Tuple [.Name x px, .Name y py] kt pt] (.Tuple [a, b] k2 pt2) X.env = pure (some [x, y]))
    (hs : swapsWithSole [.Tuple [.Name x px, .Name y py] kt pt] (.Tuple [a, b] k2 pt2) pos.line X.env = pure false := by rfl) (he : starEach (a :: [b]) X.env = (false, eval a X.env) :: starEach [b] X.env := by rfl) (he' : starEach [b] X.env = (false, eval b X.env) :: starEach [] X.env := by rfl) :
    ES X c (.Assign [.Tuple [.Name x px, .Name y py] kt pt] (.Tuple [a, b] k2 pt2) pos) (sParV i j f gc) := ps_imp (ps_par hc hN hi hj hij hx hy (pa_cons ha (pa_cons hb pa_nil he') he) hw hs) fun D σ H q => by
  refine tS.first (R := RE _) (k := fun s v L1 => bnd (gc s L1) fun w L2 => some (.ok (.nx ((s.set i (.val v)).set j (.own w))) L2)) q fun ρ L s v L1 ρ1 H1 u r e1 t1 q1 o => ?_
  refine ⟨ρ1, L1, s, r.go e1 t1, OuS.bind (R := RN _) o (r.ext.trans e1) fun w L2 ρ2 H2 u2 _ e2 t2 q2 o2 => ⟨u, u2, rfl, ?_⟩⟩
  exact o2 ρ2 H2 _ Stb.refl (((r.go e1 t1).set q1).ownNew e2 t2 q2 j)
end
section
variable {i j : Nat} {f : EF} {fc : CF} {g : EF} {gc : CF} {h : SF} {s : Slots} {L : Store} {P : Flw → Store → Prop}
@[simp] theorem sParO_at : sParO i j fc g s L = bnd (fc s L) fun v L1 => bnd (g s L1) fun w L2 => some (.ok (.nx ((s.set i (.own v)).set j (.val w))) L2) := rfl
@[simp] theorem sParV_at : sParV i j f gc s L = bnd (f s L) fun v L1 => bnd (gc s L1) fun w L2 => some (.ok (.nx ((s.set i (.val v)).set j (.own w))) L2) := rfl
@[simp] theorem Ok_seqParO : Ok (sSeq (sParO i j fc g) h s L) P ↔ Ok (fc s L) fun v L1 => Ok (g s L1) fun w L2 => Ok (h ((s.set i (.own v)).set j (.val w)) L2) P := by simp [Ok_seq]
@[simp] theorem Ok_seqParV : Ok (sSeq (sParV i j f gc) h s L) P ↔ Ok (f s L) fun v L1 => Ok (gc s L1) fun w L2 => Ok (h ((s.set i (.val v)).set j (.own w)) L2) P := by simp [Ok_seq]
end
end Fx

set_option Elab.async false
set_option linter.all false
set_option maxRecDepth 100000
set_option maxHeartbeats 1000000
/-! Fx part 26: calls with keywords; items of a dict walked; dict comprehensions. -/
namespace Fx
open PySem L2
/-! ### keywords -/
def KV (X : Cx) (c : FC) (kws : List Keyword) (f : AF) : Prop := PK X kws (tOf (gx X c.kt) (RA (gx X c.kt)) c.r0 c.H0 c.W f)
theorem pk_imp {X : Cx} {kws : List Keyword} {t t' : TA} (h : PK X kws t) (i : ∀ σ H Q, t' σ H Q → t σ H Q) : PK X kws t' := ⟨fun pos pins s σ H Q I q => h.run pos pins s σ H Q I (i σ H Q q)⟩
/-- f(e, .., k = v, ..), all keyword-only parameters told -/
def eCallK (n m : Nat) (g : DS) (fa fk : AF) : EF := fun s L => bnd (fa s L) fun args L1 => bnd (fk s L1) fun kws L2 => if args.length = n ∧ kws.length = m then g (args ++ kws) L2 else none
section
variable {X : Cx} {c : FC} {e : Expr} {es : List Expr} {kws : List Keyword} {f : EF} {fa fk : AF} {nm : Option Str} {p pos kpos apos cpos tpos : Pos}
theorem kv_nil : KV X c [] aNil := by
  refine pk_imp pk_nil fun σ H Q h => ?_
  obtain ⟨ρ, L, s, r, o⟩ := h
  exact o ρ H _ Ext.refl r.st rfl
theorem kv_cons (ha : EV X c e f) (hr : KV X c kws fa) : KV X c (⟨nm, e, kpos⟩ :: kws) (aCons f fa) := by
  refine pk_imp (pk_cons ha hr) fun σ H Q h => ?_
  refine tOf.first (R := RE _) (R' := RA _) (k := fun s x L1 => bnd (fa s L1) fun xs L2 => some (.ok (x :: xs) L2)) h fun ρ L s x L1 ρ1 H1 u r e1 q1 o => ?_
  exact ⟨ρ1, L1, s, r, Ou.bind o fun xs L2 ρ2 H2 us _ e2 t2 q2 o2 => o2 ρ2 H2 _ Ext.refl t2 ⟨_, _, rfl, Rep.mono e2.toStb q1, q2⟩⟩
theorem ev_clN {kt : Bool} {k n N : Nat} {fA : Addr} {fd : FuncData} {ps ks : List Str} {g : DS} {x : Str} (hkt : c.kt = kt) (F : FnOk X.prog X.w X.K X.mg X.base CX0 k fA fd ps (spG (gx X kt) N g)) (hN : n + ks.length = N) (hsf : Safe g) (hr : Room k X.A) (hg : Gl X x) (hm : X.mg x = some (.ref fA)) (hk : PySem.W.keepIn X.K (.ref fA) = true)
    (hb : KBn X.K fd ps n ks (fun us ws => us ++ ws) (fun us ws => us ++ ws)) (ha : AV X c (e :: es) fa) (hkw : KV X c kws fk) (hall : (backToKw pos (keywordEach kws X.env)).all (·.1.isSome) = true := by rfl) (hks : (backToKw pos (keywordEach kws X.env)).filterMap (·.1) = ks := by rfl)
    (hdb : (x == ("__debug__" : Str)) = false := by decide) (he : starEach (e :: es) X.env = (false, eval e X.env) :: starEach es X.env := by rfl)
    (hpl : ((backTo pos (starEach (e :: es) X.env)).any (·.1) || (backToKw pos (keywordEach kws X.env)).any (·.1.isNone)) = false := by rfl) :
    EV X c (.Call (.Name x p) (e :: es) kws pos) (eCallK n ks.length g fa fk) := by
  subst hkt hN
  refine pe_imp (pe_callN F hr hg hm hk hb (E := E0) pass0 ha hkw hall hks hdb he hpl) fun σ H Q q => ?_
  refine tOf.first (R := RA _) (R' := RE _) (k := fun s args L1 => bnd (fk s L1) fun kws L2 => if args.length = n ∧ kws.length = ks.length then g (args ++ kws) L2 else none) q fun ρ L s args L1 ρ1 H1 vs r e1 q1 o => ?_
  refine ⟨ρ1, L1, s, r, Ou.bind (R := RA _) (R' := RE _) o fun kw L2 ρ2 H2 zs _ e2 t2 q2 o2 => ?_⟩
  split at o2
  · rename_i hl
    refine ⟨by rw [← Reps.length q1]; exact hl.1, by rw [← Reps.length q2]; exact hl.2, ρ2, L2, args ++ kw, t2, Reps.append (Reps.mono e2.toStb q1) q2, by rw [List.length_append, hl.1, hl.2], ?_⟩
    match hgg : g (args ++ kw) L2, o2 with
    | some (.ok v L3), o2 => exact o2
    | some (.err y L3), o2 => exact absurd hgg (hsf _ _ _ _)
    | none, o2 => exact o2.elim
  · exact o2.elim
theorem fun_kb {K : PySem.W.Frag} {x qual : Str} {st : Stmt} {fA : Addr} {fd : FuncData} {ps ks : List Str} {n : Nat} (F : Fun K x qual st fA fd)
    (h : ∀ (kV doc pm : Value) (an : Option Addr) (cdv ct : Value) (us ws : List Value), us.length = n → ws.length = ks.length → bindArgs (PySem.W.fnOf x qual (defArgs st) (defBody st) (defScope st) .none kV doc pm an cdv ct) ⟨us, ks.zip ws⟩ = pure (ps.zip (us ++ ws))) : KBn K fd ps n ks (fun us ws => us ++ ws) (fun us ws => us ++ ws) := by
  obtain ⟨oc, od, kV, doc, pm, an, cdv, ct, osl, rfl, lk, hcd⟩ := F.ex
  exact ⟨fun s us ws _ l1 l2 => .of_eq (h kV doc pm an cdv ct us ws l1 l2), fun r1 r2 => r1.append r2⟩
/-! ### for k, v in d.items() -/
def hItems : PV → Option (List PV)
  | .dk ks xs => some ((ks.zip xs).map fun p => .tup [keyP p.1, p.2])
  | _ => none
def iItm (g : EF) : AF := fun s L => bnd (g s L) fun v L1 => ret (hItems v) L1
theorem rep_key {G : Gx} {ρ : List Addr} {H : Hp} (k : Key) : Rep G ρ H (keyP k) (kV k) := by cases k <;> rfl
theorem iv_items {g : EF} {elts : List Expr} {kk : Nat} (h : EV X c e g) (hbase : attributeBase e "items" X.env (eval e X.env) = eval e X.env := by rfl) (hline : (apos.endLine == cpos.line) = true := by rfl) :
    IV X c true (.Tuple elts kk tpos) (.Call (.Attribute e "items" apos) [] [] cpos) (iItm g) := by
  refine pi_imp (pi_items h hbase hline) fun σ H R q => ?_
  refine tOf.first (R := RE _) (R' := RI _ _) (k := fun s v L1 => ret (hItems v) L1) q fun ρ L s v L1 ρ1 H1 u r e1 q1 o => ?_
  obtain ⟨zs, hz, k⟩ := Ou.ret o
  cases v with
  | dk ks xs =>
    cases hz
    obtain ⟨a, ob, l, rfl, hn, ha, hk, hs⟩ := q1
    subst hk
    have hl : xs.length = l.length := by rw [hs.length, List.length_map]
    refine ⟨a, ob, l, rfl, ha, k ρ1 H1 _ Ext.refl r.st fun i ρ2 H2 st => ⟨fun hi => ?_, fun hi => ⟨st.frz _ _ _ hn ha, by simp at hi; omega⟩⟩⟩
    have hi' : i < l.length := by simp at hi; omega
    refine ⟨⟨st.frz _ _ _ hn ha, hi'⟩, fun x H3 hy => ?_⟩
    obtain ⟨T, k', v', hkv, rfl, hT, rfl⟩ := hy
    refine ⟨fun a o h => by rw [upd_ne (ne_of_none h hT)]; exact h, ?_⟩
    have hxi : i < xs.length := by omega
    obtain ⟨w, hw, rw'⟩ := hs.get (i := i) (x := xs[i]) (by simp [hxi])
    rw [List.getElem?_map, hkv] at hw
    cases hw
    have hli : l[i] = (k', v') := by
      have := List.getElem?_eq_some_iff.mp hkv
      exact this.2
    have e3 : ((List.map (·.1) l).zip xs).map (fun p => PV.tup [keyP p.1, p.2]) = ((List.map (·.1) l).zip xs).map fun p => PV.tup [keyP p.1, p.2] := rfl
    refine .inr ⟨rfl, [keyP k', xs[i]], T, [kV k', v'], by simp [hli], rfl, upd_same, ?_⟩
    exact (Reps.cons (rep_key k') (.cons (rw'.mono st) .nil)).mono (Ext.new hT).toStb
  | _ => cases hz
end
/-! ### {k: v for ..} -/
def dLoop (t : TGF) (p : BF) (gk gv : EF) (s : Slots) : List PV → List (Key × PV) → Store → Option (Res Cell)
  | [], acc, L => some (.ok (.dk acc) L)
  | x :: r, acc, L => match t x s with
    | none => none
    | some s1 => bndN (p s1 L) fun b L1 => if b = true then bndN (gk s1 L1) fun y L2 => bndN (gv s1 L2) fun z L3 => match keyOf y with
      | some k => if acc.length < sizeLine then dLoop t p gk gv s r (put acc k z) L3 else none
      | none => none
      else dLoop t p gk gv s r acc L1
def nDComp (fi : AF) (t : TGF) (p : BF) (gk gv : EF) (vs : List Nat) : CF := fun s L => bnd (fi s L) fun xs L1 => dLoop t p gk gv (wipeS s vs) xs [] L1
section
variable {X : Cx} {c : FC} {kx vx tg iter : Expr} {ifs : List Expr} {scope : Scope} {own : List (Str × Nat)} {pos : Pos} {fi : AF} {t : TGF} {ix : List Nat} {p : BF} {gk gv : EF} {raw : Bool}
def DI (G : Gx) (W : WX) (t : TGF) (p : BF) (gk gv : EF) (s : Slots) (ρ1 : List Addr) (σ : St) (H1 : Hp) (Q : VK) (D : Addr) (xs : List PV) (i : Nat) (H : Hp) : Prop :=
  ∃ ρ L acc av, Ext ρ1 ρ H1 H ∧ Rst G ρ L H ∧ D ∉ ρ ∧ H D = some (.dK av) ∧ DRep G ρ H acc av ∧ Ou G (RN G) W ρ1 σ H1 Q (dLoop t p gk gv s (xs.drop i) acc L)
theorem dcomp_read {G : Gx} {vs : List Nat} (hix : ∀ j ∈ ix, j ∈ vs) {σ : St} {H : Hp} {Q : VK} (q : tOf G (RN G) c.r0 c.H0 c.W (nDComp fi t p gk gv vs) σ H Q) :
    tDc (tOf G (RI G raw) c.r0 c.H0 c.W fi) (gOf G raw c.r0 c.H0 t ix) (tOf G RB c.r0 c.H0 (fun _ _ _ _ => False) p) (tOf G (RE G) c.r0 c.H0 (fun _ _ _ _ => False) gk) (tOf G (RE G) c.r0 c.H0 (fun _ _ _ _ => False) gv) vs σ H Q := by
  refine tOf.first (R := RI G raw) (R' := RN G) (k := fun s xs L1 => dLoop t p gk gv (wipeS s vs) xs [] L1) q fun ρ L s xs L1 ρ1 H1 J r e1 q1 o => ?_
  intro D hD
  refine ⟨fun i m H' => m = xs.length - i ∧ i ≤ xs.length ∧ DI G c.W t p gk gv (wipeS s vs) ρ1 σ H1 Q D xs i H', ⟨xs.length, by simp, Nat.zero_le _, ρ1, L1, [], [], Ext.new hD, r.st.new hD, r.st.fresh hD, upd_same, DRep.nil, by simpa using o⟩, ?_⟩
  rintro i m Hi ⟨rfl, hi, ρ2, L2, acc, av, e2, t2, nD, aD, ra, oi⟩
  obtain ⟨y1, y2⟩ := q1 i ρ2 Hi e2.toStb
  by_cases hlt : i < xs.length
  · obtain ⟨go, yl⟩ := y1 hlt
    refine .inr ⟨go, fun H' => DI G c.W t p gk gv (wipeS s vs) ρ1 σ H1 Q D xs (i + 1) H', fun H' h => ⟨xs.length - (i + 1), by omega, rfl, hlt, h⟩, fun x H' hy => ?_⟩
    obtain ⟨k, rx⟩ := yl x H' hy
    have R2 := (r.go e2 t2).go (Ext.same k) (t2.same k)
    have hd : xs.drop i = xs[i] :: xs.drop (i + 1) := by rw [List.drop_eq_getElem_cons hlt]
    rw [hd] at oi
    unfold dLoop at oi
    cases ht : t xs[i] (wipeS s vs) with
    | none => rw [ht] at oi; exact oi.elim
    | some s1 =>
      rw [ht] at oi
      dsimp only at oi
      have e3 : Ext ρ1 ρ2 H1 H' := e2.trans (Ext.same k)
      have aD3 : H' D = some (.dK av) := k _ _ aD
      refine ⟨ρ2, L2, wipeS s vs, xs[i], s1, R2.wipe vs, rx, ht, fun σ1 R3 hl hj => ⟨wipe_eq (by rw [hl, wipe_length]) fun j hn => hj j fun z => hn (hix j z), ρ2, L2, s1, R3, ?_⟩⟩
      cases hp : p s1 L2 with
      | none => rw [hp] at oi; exact oi.elim
      | some a =>
        cases a with
        | err _ _ => rw [hp] at oi; exact oi.elim
        | ok b L3 =>
          rw [hp, bndN_ok] at oi
          intro ρ3 H3 b' e4 t3 hb
          obtain rfl : b = b' := hb
          have aD4 : H3 D = some (.dK av) := e4.keep _ _ nD aD3
          have nD4 : D ∉ ρ3 := e4.notin nD aD3
          have ra4 := (ra.mono (Ext.same (ρ := ρ2) k).toStb).mono e4.toStb
          cases b with
          | false =>
            rw [if_neg Bool.false_ne_true] at oi ⊢
            exact ⟨ρ3, L3, acc, av, e3.trans e4, t3, nD4, aD4, ra4, oi⟩
          | true =>
            rw [if_pos rfl] at oi ⊢
            refine ⟨ρ3, L3, s1, R3.go e4 t3, ?_⟩
            cases hg : gk s1 L3 with
            | none => rw [hg] at oi; exact oi.elim
            | some a =>
              cases a with
              | err _ _ => rw [hg] at oi; exact oi.elim
              | ok y L4 =>
                rw [hg, bndN_ok] at oi
                intro ρ5 H5 yv e5 t5 ry
                have aD5 : H5 D = some (.dK av) := e5.keep _ _ nD4 aD4
                have nD5 : D ∉ ρ5 := e5.notin nD4 aD4
                have ra5 := ra4.mono e5.toStb
                refine ⟨ρ5, L4, s1, (R3.go e4 t3).go e5 t5, ?_⟩
                cases hv : gv s1 L4 with
                | none => rw [hv] at oi; exact oi.elim
                | some a =>
                  cases a with
                  | err _ _ => rw [hv] at oi; exact oi.elim
                  | ok z L5 =>
                    rw [hv, bndN_ok] at oi
                    intro ρ6 H6 zv e6 t6 rz
                    cases hk : keyOf y with
                    | none => rw [hk] at oi; exact oi.elim
                    | some kk =>
                      rw [hk] at oi
                      dsimp only at oi
                      by_cases hz : acc.length < sizeLine
                      · rw [if_pos hz] at oi
                        have aD6 : H6 D = some (.dK av) := e6.keep _ _ nD5 aD5
                        have nD6 : D ∉ ρ6 := e6.notin nD5 aD5
                        have ra6 := ra5.mono e6.toStb
                        refine ⟨av, kk, keyOf_rep ry hk, aD6, by rw [← ra6.length]; exact hz, ?_⟩
                        have e7 := ((e3.trans e4).trans e5).trans e6
                        have st : Stb ρ6 ρ6 H6 (upd H6 D (.dK (putK av kk zv))) := Stb.mut aD6 trivial
                        exact ⟨ρ6, L5, put acc kk z, putK av kk zv, e7.mutNew hD aD6 trivial, t6.mutOut nD6 aD6 trivial, nD6, upd_same, (DRep.put rz ra6).mono st, oi⟩
                      · rw [if_neg hz] at oi; exact oi.elim
  · have hi' : i = xs.length := by omega
    subst hi'
    refine .inl ⟨y2 (Nat.le_refl _), ?_⟩
    rw [List.drop_length] at oi
    exact oi ρ2 Hi _ e2 t2 ⟨D, rfl, nD, hD, av, aD, ra.1, ra.2⟩
theorem nv_dc (hc : X.calm = true) (hN : X.N.Nodup) (hi : IV X c raw tg iter fi) (ok : BlkOk X.N X.env.scope scope own)
    (hg : ∀ (s : Shared) (H : Hp) (C : Addr) (cl : List (Str × Addr)) (fp : List Addr), GV (X.blk s H scope (compEnvC scope cl C X.env) fp) c raw tg t ix)
    (ht : ∀ (s : Shared) (H : Hp) (C : Addr) (cl : List (Str × Addr)) (fp : List Addr), TVs (X.blk s H scope (compEnvC scope cl C X.env) fp) c.nox ifs p)
    (hk : ∀ (s : Shared) (H : Hp) (C : Addr) (cl : List (Str × Addr)) (fp : List Addr), EV (X.blk s H scope (compEnvC scope cl C X.env) fp) c.nox kx gk)
    (he : ∀ (s : Shared) (H : Hp) (C : Addr) (cl : List (Str × Addr)) (fp : List Addr), EV (X.blk s H scope (compEnvC scope cl C X.env) fp) c.nox vx gv)
    (hix : ∀ j ∈ ix, j ∈ own.map (·.2) := by decide) (hs : ∀ x, foldedSetIterable iter X.env x = pure x := by intro _; rfl) :
    NV X c (.DictComp kx vx [⟨tg, iter, ifs, 0⟩] scope pos) (nDComp fi t p gk gv (own.map (·.2))) :=
  pe_imp (pe_dc (g := gOf (gx X c.kt) raw c.r0 c.H0 t ix) (tt := tOf (gx X c.kt) RB c.r0 c.H0 (fun _ _ _ _ => False) p) (tk := tOf (gx X c.kt) (RE (gx X c.kt)) c.r0 c.H0 (fun _ _ _ _ => False) gk) (tv := tOf (gx X c.kt) (RE (gx X c.kt)) c.r0 c.H0 (fun _ _ _ _ => False) gv) hc hN hi ok hg ht hk he hs) fun _ _ _ q => dcomp_read hix q
/-- name = {..} of a line, the name a local -/
theorem ps_setDc {i : Nat} {y : Str} {py spos : Pos} {wi : TI} {g : TG} {tt : TT} {tk tv : TE} (hc : X.calm = true) (hN : X.N.Nodup) (hy : X.N[i]? = some y) (hyl : X.env.scope.names.lookup y = some .local)
    (hsw : swapsWith (.DictComp kx vx [⟨tg, iter, ifs, 0⟩] scope pos) (some (.Name y py)) spos.line X.env = pure true) (hi : PI X tg iter wi) (ok : BlkOk X.N X.env.scope scope own)
    (hg : ∀ (s : Shared) (H : Hp) (C : Addr) (cl : List (Str × Addr)) (fp : List Addr), PG (X.blk s H scope (compEnvC scope cl C X.env) fp) tg g) (ht : ∀ (s : Shared) (H : Hp) (C : Addr) (cl : List (Str × Addr)) (fp : List Addr), PTs (X.blk s H scope (compEnvC scope cl C X.env) fp) ifs tt)
    (hk : ∀ (s : Shared) (H : Hp) (C : Addr) (cl : List (Str × Addr)) (fp : List Addr), PE (X.blk s H scope (compEnvC scope cl C X.env) fp) kx tk)
    (he : ∀ (s : Shared) (H : Hp) (C : Addr) (cl : List (Str × Addr)) (fp : List Addr), PE (X.blk s H scope (compEnvC scope cl C X.env) fp) vx tv) (hs : ∀ x, foldedSetIterable iter X.env x = pure x := by intro _; rfl) :
    PS X (.Assign [.Name y py] (.DictComp kx vx [⟨tg, iter, ifs, 0⟩] scope pos) spos) (tAsg (tDc wi g tt tk tv (own.map (·.2))) (gName i)) := by
  refine ⟨fun pins s σ H D I h => ?_⟩
  rw [exec_Assign_Name_used _ _ _ _ hsw]
  refine wpAny_bind (wpAny_standAt (wpAny_bind ?_))
  show wpAny _ X.A (do let _ ← comprehension (.DictComp kx vx [⟨tg, iter, ifs, 0⟩] scope pos) scope X.env (firstIterPos [⟨tg, iter, ifs, 0⟩] pos) newDict false (eval iter X.env) (some (assign (.Name y py) X.env))) _ _ s
  have h : tDc wi g tt tk tv (own.map (·.2)) σ H (fun x H1 => gName i x σ H1 D.nx) := h
  refine wpAny_bind (thn (dc_core (Qf := fun _ s' => SP X pins D .next s') hc hN I hi ok hg ht hk he hs h fun L C s' m H' I' q hn f => ?_) fun _ s' hq => wpAny_pure (wpAny_pure hq))
  show wpAny _ _ (assign (.Name y py) X.env (.ref L)) _ _ _
  refine wpAny_assign_Name (store_ok2 (v := V.ref L) I' hN hy (.inl hyl) rfl (fun s2 I2 ⟨a, sb, ha⟩ => ?_) (.inr hyl))
  obtain ⟨f0, f1, f2, f3, f4, f5⟩ := f
  have haC : C ≠ a := by
    rcases ha with z | z
    · rw [z]; exact f1
    · exact fun e => f4 y a z e.symm
  refine ⟨m, hn.sameBut sb haC, fun h3 sb3 => ?_⟩
  exact ⟨_, H', I2.turned (t' := s2.toks) (fun b o hb e => (sb3.2 b hb).trans e) f0 f1 f3 f4 f5, q⟩
theorem swd_true {gs : List Comprehension} {py : Pos} {y : Str} {l : Nat} {env : Env} (hk : env.scope.kind = .function) (hy : env.scope.names.lookup y = some .local) (hl : (py.line == pos.line) = true)
    (ha : (scope.names.any fun (n, k) => n == y && (k == .local || k == .cell)) = false) : swapsWith (.DictComp kx vx gs scope pos) (some (.Name y py)) l env = pure true := by
  have ky : env.kindOf y = some .local := hy
  have hb : env.blockKind = .function := by unfold Env.blockKind; rw [hk]; rfl
  unfold swapsWith
  simp only [hb, ky, ha, Expr.pos, hl]
  rfl
theorem es_dc {i : Nat} {y : Str} {py spos : Pos} (hc : X.calm = true) (hN : X.N.Nodup) (hy : X.N[i]? = some y) (hyl : X.env.scope.names.lookup y = some .local)
    (hsw : swapsWith (.DictComp kx vx [⟨tg, iter, ifs, 0⟩] scope pos) (some (.Name y py)) spos.line X.env = pure true) (hi : IV X c raw tg iter fi) (ok : BlkOk X.N X.env.scope scope own)
    (hg : ∀ (s : Shared) (H : Hp) (C : Addr) (cl : List (Str × Addr)) (fp : List Addr), GV (X.blk s H scope (compEnvC scope cl C X.env) fp) c raw tg t ix)
    (ht : ∀ (s : Shared) (H : Hp) (C : Addr) (cl : List (Str × Addr)) (fp : List Addr), TVs (X.blk s H scope (compEnvC scope cl C X.env) fp) c.nox ifs p)
    (hk : ∀ (s : Shared) (H : Hp) (C : Addr) (cl : List (Str × Addr)) (fp : List Addr), EV (X.blk s H scope (compEnvC scope cl C X.env) fp) c.nox kx gk)
    (he : ∀ (s : Shared) (H : Hp) (C : Addr) (cl : List (Str × Addr)) (fp : List Addr), EV (X.blk s H scope (compEnvC scope cl C X.env) fp) c.nox vx gv)
    (hix : ∀ j ∈ ix, j ∈ own.map (·.2) := by decide) (hs : ∀ x, foldedSetIterable iter X.env x = pure x := by intro _; rfl) :
    ES X c (.Assign [.Name y py] (.DictComp kx vx [⟨tg, iter, ifs, 0⟩] scope pos) spos) (sOwn i (nDComp fi t p gk gv (own.map (·.2)))) := by
  refine ps_imp (ps_setDc (g := gOf (gx X c.kt) raw c.r0 c.H0 t ix) (tt := tOf (gx X c.kt) RB c.r0 c.H0 (fun _ _ _ _ => False) p) (tk := tOf (gx X c.kt) (RE (gx X c.kt)) c.r0 c.H0 (fun _ _ _ _ => False) gk) (tv := tOf (gx X c.kt) (RE (gx X c.kt)) c.r0 c.H0 (fun _ _ _ _ => False) gv) hc hN hy hyl hsw hi ok hg ht hk he hs) fun D σ H q => ?_
  refine dcomp_read (c := c) hix ?_
  refine tS.first (R := RN _) (k := fun s v L1 => some (.ok (.nx (s.set i (.own v))) L1)) q fun ρ L s v L1 ρ1 H1 u r e1 t1 q1 o => ?_
  exact o ρ1 H1 _ Stb.refl (r.ownNew e1 t1 q1 i)
end
section
variable {n m : Nat} {g : DS} {fa fk fi : AF} {f gk gv : EF} {t : TGF} {p : BF} {vs : List Nat} {s : Slots} {L : Store}
@[simp] theorem eCallK_at : eCallK n m g fa fk s L = bnd (fa s L) fun args L1 => bnd (fk s L1) fun kws L2 => if args.length = n ∧ kws.length = m then g (args ++ kws) L2 else none := rfl
@[simp] theorem iItm_at : iItm f s L = bnd (f s L) fun v L1 => ret (hItems v) L1 := rfl
@[simp] theorem nDComp_at : nDComp fi t p gk gv vs s L = bnd (fi s L) fun xs L1 => dLoop t p gk gv (wipeS s vs) xs [] L1 := rfl
@[simp] theorem hItems_dk {ks : List Key} {xs : List PV} : hItems (.dk ks xs) = some ((ks.zip xs).map fun p => .tup [keyP p.1, p.2]) := rfl
end
end Fx

set_option Elab.async false
set_option linter.all false
set_option maxRecDepth 100000
set_option maxHeartbeats 1000000
/-! Fx part 27: list comprehensions of two clauses. -/
namespace Fx
open PySem L2
def noOwn (s : Slots) : Bool := s.all fun x => match x with
  | .own _ => false
  | _ => true
theorem noOwn_at {s : Slots} (h : noOwn s = true) {i : Nat} {c : Cell} : s[i]? ≠ some (.own c) := fun e => by
  have := List.all_eq_true.mp h _ (List.mem_of_getElem? e)
  cases this
theorem RR.stb {G : Gx} {r0 ρ ρ' : List Addr} {H0 H H' : Hp} {L L' : Store} {s : Slots} {σ : St} (R : RR G r0 H0 ρ L s σ H) (n : noOwn s = true) (st : Stb ρ ρ' H H') (t : Rst G ρ' L' H') (x : Ext r0 ρ' H0 H') : RR G r0 H0 ρ' L' s σ H' := by
  obtain ⟨β, q⟩ := R.sl
  refine ⟨t, ⟨β, q.len, fun j w e => ?_, fun j d e => absurd e (noOwn_at n), fun j k d d' e => absurd e (noOwn_at n)⟩, x⟩
  obtain ⟨v, h1, h2⟩ := q.val j w e
  exact ⟨v, h1, h2.mono st⟩
def c2Loop (t : TGF) (p : BF) (fi1 : AF) (t1 : TGF) (p1 : BF) (g : EF) (s : Slots) (vs1 : List Nat) : List PV → List PV → Store → Option (Res Cell)
  | [], acc, L => some (.ok (.lst acc) L)
  | x :: r, acc, L => match t x s with
    | none => none
    | some s1 => if noOwn s1 = true then bndN (p s1 L) fun b L1 => if b = true then bndN (fi1 s1 L1) fun ys L2 => bndN (cLoop t1 p1 g (wipeS s1 vs1) ys acc L2) fun cc L3 => match cc with
        | .lst acc' => c2Loop t p fi1 t1 p1 g s vs1 r acc' L3
        | _ => none
        else c2Loop t p fi1 t1 p1 g s vs1 r acc L1 else none
def nComp2 (fi : AF) (t : TGF) (p : BF) (fi1 : AF) (t1 : TGF) (p1 : BF) (g : EF) (vs vs1 : List Nat) : CF := fun s L => bnd (fi s L) fun xs L1 => c2Loop t p fi1 t1 p1 g (wipeS s vs) vs1 xs [] L1
section
variable {X : Cx} {c : FC} {elt tg iter tg1 iter1 : Expr} {ifs ifs1 : List Expr} {scope : Scope} {own : List (Str × Nat)} {pos : Pos} {fi fi1 : AF} {t t1 : TGF} {ix ix1 vs1 : List Nat} {p p1 : BF} {g : EF} {raw raw1 : Bool}
def C2I (G : Gx) (W : WX) (t : TGF) (p : BF) (fi1 : AF) (t1 : TGF) (p1 : BF) (g : EF) (s : Slots) (vs1 : List Nat) (ρ1 : List Addr) (σ : St) (H1 : Hp) (Q : VK) (D : Addr) (xs : List PV) (i : Nat) (H : Hp) : Prop :=
  ∃ ρ L acc av, Ext ρ1 ρ H1 H ∧ Rst G ρ L H ∧ D ∉ ρ ∧ H D = some (.lst av) ∧ Reps G ρ H acc av ∧ Ou G (RN G) W ρ1 σ H1 Q (c2Loop t p fi1 t1 p1 g s vs1 (xs.drop i) acc L)
/-- within the second clause -/
def C2J (G : Gx) (W : WX) (K : Cell → Store → Option (Res Cell)) (t1 : TGF) (p1 : BF) (g : EF) (s : Slots) (ρ1 : List Addr) (σ : St) (H1 : Hp) (Q : VK) (D : Addr) (ρ4 : List Addr) (H4 : Hp) (ys : List PV) (j : Nat) (H : Hp) : Prop :=
  ∃ ρ L acc av, Ext ρ1 ρ H1 H ∧ Stb ρ4 ρ H4 H ∧ Rst G ρ L H ∧ D ∉ ρ ∧ H D = some (.lst av) ∧ Reps G ρ H acc av ∧ Ou G (RN G) W ρ1 σ H1 Q (bndN (cLoop t1 p1 g s (ys.drop j) acc L) K)
theorem comp2_read {G : Gx} {vs : List Nat} (hix : ∀ j ∈ ix, j ∈ vs) (hix1 : ∀ j ∈ ix1, j ∈ vs1) {σ : St} {H : Hp} {Q : VK} (q : tOf G (RN G) c.r0 c.H0 c.W (nComp2 fi t p fi1 t1 p1 g vs vs1) σ H Q) :
    tLc2 (tOf G (RI G raw) c.r0 c.H0 c.W fi) (gOf G raw c.r0 c.H0 t ix) (tOf G RB c.r0 c.H0 (fun _ _ _ _ => False) p) (tOf G (RI G raw1) c.r0 c.H0 (fun _ _ _ _ => False) fi1) (gOf G raw1 c.r0 c.H0 t1 ix1) (tOf G RB c.r0 c.H0 (fun _ _ _ _ => False) p1) (tOf G (RE G) c.r0 c.H0 (fun _ _ _ _ => False) g) vs vs1 σ H Q := by
  refine tOf.first (R := RI G raw) (R' := RN G) (k := fun s xs L1 => c2Loop t p fi1 t1 p1 g (wipeS s vs) vs1 xs [] L1) q fun ρ L s xs L1 ρ1 H1 J r e1 q1 o => ?_
  intro D hD
  refine ⟨fun i m H' => m = xs.length - i ∧ i ≤ xs.length ∧ C2I G c.W t p fi1 t1 p1 g (wipeS s vs) vs1 ρ1 σ H1 Q D xs i H', ⟨xs.length, by simp, Nat.zero_le _, ρ1, L1, [], [], Ext.new hD, r.st.new hD, r.st.fresh hD, upd_same, .nil, by simpa using o⟩, ?_⟩
  rintro i m Hi ⟨rfl, hi, ρ2, L2, acc, av, e2, t2, nD, aD, ra, oi⟩
  obtain ⟨y1, y2⟩ := q1 i ρ2 Hi e2.toStb
  by_cases hlt : i < xs.length
  · obtain ⟨go, yl⟩ := y1 hlt
    refine .inr ⟨go, fun H' => C2I G c.W t p fi1 t1 p1 g (wipeS s vs) vs1 ρ1 σ H1 Q D xs (i + 1) H', fun H' h => ⟨xs.length - (i + 1), by omega, rfl, hlt, h⟩, fun x H' hy => ?_⟩
    obtain ⟨k, rx⟩ := yl x H' hy
    have R2 := (r.go e2 t2).go (Ext.same k) (t2.same k)
    have hd : xs.drop i = xs[i] :: xs.drop (i + 1) := by rw [List.drop_eq_getElem_cons hlt]
    rw [hd] at oi
    unfold c2Loop at oi
    cases ht : t xs[i] (wipeS s vs) with
    | none => rw [ht] at oi; exact oi.elim
    | some s1 =>
      rw [ht] at oi
      dsimp only at oi
      by_cases hno : noOwn s1 = true
      rotate_left
      · rw [if_neg hno] at oi; exact oi.elim
      rw [if_pos hno] at oi
      have e3 : Ext ρ1 ρ2 H1 H' := e2.trans (Ext.same k)
      have aD3 : H' D = some (.lst av) := k _ _ aD
      refine ⟨ρ2, L2, wipeS s vs, xs[i], s1, R2.wipe vs, rx, ht, fun σ1 R3 hl hj => ⟨wipe_eq (by rw [hl, wipe_length]) fun j hn => hj j fun z => hn (hix j z), ρ2, L2, s1, R3, ?_⟩⟩
      cases hp : p s1 L2 with
      | none => rw [hp] at oi; exact oi.elim
      | some a =>
        cases a with
        | err _ _ => rw [hp] at oi; exact oi.elim
        | ok b L3 =>
          rw [hp, bndN_ok] at oi
          intro ρ3 H3 b' e4 t3 hb
          obtain rfl : b = b' := hb
          have aD4 : H3 D = some (.lst av) := e4.keep _ _ nD aD3
          have nD4 : D ∉ ρ3 := e4.notin nD aD3
          have ra4 := (ra.mono (Ext.same (ρ := ρ2) k).toStb).mono e4.toStb
          cases b with
          | false =>
            rw [if_neg Bool.false_ne_true] at oi ⊢
            exact ⟨ρ3, L3, acc, av, e3.trans e4, t3, nD4, aD4, ra4, oi⟩
          | true =>
            rw [if_pos rfl] at oi ⊢
            refine ⟨ρ3, L3, s1, R3.go e4 t3, ?_⟩
            cases hg : fi1 s1 L3 with
            | none => rw [hg] at oi; exact oi.elim
            | some a =>
              cases a with
              | err _ _ => rw [hg] at oi; exact oi.elim
              | ok ys L4 =>
                rw [hg, bndN_ok] at oi
                intro ρ4 H4 J1 e5 t4 q4
                have aD5 : H4 D = some (.lst av) := e5.keep _ _ nD4 aD4
                have nD5 : D ∉ ρ4 := e5.notin nD4 aD4
                have ra5 := ra4.mono e5.toStb
                have R4 := (R3.go e4 t3).go e5 t4
                have e6 := (e3.trans e4).trans e5
                refine ⟨fun j m H' => m = ys.length - j ∧ j ≤ ys.length ∧ C2J G c.W (fun cc L3 => match cc with
                    | .lst acc' => c2Loop t p fi1 t1 p1 g (wipeS s vs) vs1 (xs.drop (i + 1)) acc' L3
                    | _ => none) t1 p1 g (wipeS s1 vs1) ρ1 σ H1 Q D ρ4 H4 ys j H', ⟨ys.length, by simp, Nat.zero_le _, ρ4, L4, acc, av, e6, Stb.refl, t4, nD5, aD5, ra5, by simpa using oi⟩, ?_⟩
                rintro j m Hj ⟨rfl, hjl, ρ5, L5, acc, av, e7, st7, t5, nD6, aD6, ra6, oj⟩
                obtain ⟨z1, z2⟩ := q4 j ρ5 Hj st7
                by_cases hjt : j < ys.length
                · obtain ⟨go1, yl1⟩ := z1 hjt
                  refine .inr ⟨go1, fun H' => C2J G c.W _ t1 p1 g (wipeS s1 vs1) ρ1 σ H1 Q D ρ4 H4 ys (j + 1) H', fun H' h => ⟨ys.length - (j + 1), by omega, rfl, hjt, h⟩, fun x H6 hy1 => ?_⟩
                  obtain ⟨k1, rx1⟩ := yl1 x H6 hy1
                  have e8 : Ext ρ1 ρ5 H1 H6 := e7.trans (Ext.same k1)
                  have st8 : Stb ρ4 ρ5 H4 H6 := st7.trans (Ext.same k1).toStb
                  have t6 := t5.same k1
                  have R6 := R4.stb hno st8 t6 (r.ext.trans e8)
                  have hd1 : ys.drop j = ys[j] :: ys.drop (j + 1) := by rw [List.drop_eq_getElem_cons hjt]
                  rw [hd1] at oj
                  unfold cLoop at oj
                  cases ht1 : t1 ys[j] (wipeS s1 vs1) with
                  | none => rw [ht1] at oj; exact oj.elim
                  | some s2 =>
                    rw [ht1] at oj
                    dsimp only at oj
                    have aD7 : H6 D = some (.lst av) := k1 _ _ aD6
                    refine ⟨ρ5, L5, wipeS s1 vs1, ys[j], s2, R6.wipe vs1, rx1, ht1, fun σ2 R7 hl2 hj2 => ⟨wipe_eq (by rw [hl2, wipe_length]) fun l hn => hj2 l fun z => hn (hix1 l z), ρ5, L5, s2, R7, ?_⟩⟩
                    cases hp1 : p1 s2 L5 with
                    | none => rw [hp1] at oj; exact oj.elim
                    | some a =>
                      cases a with
                      | err _ _ => rw [hp1] at oj; exact oj.elim
                      | ok b L6 =>
                        rw [hp1, bndN_ok] at oj
                        intro ρ6 H7 b' e9 t7 hb
                        obtain rfl : b = b' := hb
                        have aD8 : H7 D = some (.lst av) := e9.keep _ _ nD6 aD7
                        have nD8 : D ∉ ρ6 := e9.notin nD6 aD7
                        have ra8 := (ra6.mono (Ext.same (ρ := ρ5) k1).toStb).mono e9.toStb
                        cases b with
                        | false =>
                          rw [if_neg Bool.false_ne_true] at oj ⊢
                          exact ⟨ρ6, L6, acc, av, e8.trans e9, st8.trans e9.toStb, t7, nD8, aD8, ra8, oj⟩
                        | true =>
                          rw [if_pos rfl] at oj ⊢
                          refine ⟨ρ6, L6, s2, R7.go e9 t7, ?_⟩
                          cases hg1 : g s2 L6 with
                          | none => rw [hg1] at oj; exact oj.elim
                          | some a =>
                            cases a with
                            | err _ _ => rw [hg1] at oj; exact oj.elim
                            | ok y L7 =>
                              rw [hg1, bndN_ok] at oj
                              intro ρ7 H8 yv e10 t8 ry
                              by_cases hz : acc.length < sizeLine
                              · rw [if_pos hz] at oj
                                have aD9 : H8 D = some (.lst av) := e10.keep _ _ nD8 aD8
                                have nD9 : D ∉ ρ7 := e10.notin nD8 aD8
                                have ra9 := ra8.mono e10.toStb
                                refine ⟨av, aD9, by rw [← ra9.length]; exact hz, ?_⟩
                                have e11 := (e8.trans e9).trans e10
                                have st : Stb ρ7 ρ7 H8 (upd H8 D (.lst (av ++ [yv]))) := Stb.mut aD9 trivial
                                exact ⟨ρ7, L7, acc ++ [y], av ++ [yv], e11.mutNew hD aD9 trivial, ((st8.trans e9.toStb).trans e10.toStb).trans st, t8.mutOut nD9 aD9 trivial, nD9, upd_same, (ra9.append (.cons ry .nil)).mono st, oj⟩
                              · rw [if_neg hz] at oj; exact oj.elim
                · have hj' : j = ys.length := by omega
                  subst hj'
                  refine .inl ⟨z2 (Nat.le_refl _), ?_⟩
                  rw [List.drop_length] at oj
                  exact ⟨ρ5, L5, acc, av, e7, t5, nD6, aD6, ra6, oj⟩
  · have hi' : i = xs.length := by omega
    subst hi'
    refine .inl ⟨y2 (Nat.le_refl _), ?_⟩
    rw [List.drop_length] at oi
    exact oi ρ2 Hi _ e2 t2 ⟨D, rfl, nD, hD, av, aD, ra⟩
section
variable (hc : X.calm = true) (hN : X.N.Nodup) (hi : IV X c raw tg iter fi) (ok : BlkOk X.N X.env.scope scope own) (hv : ∀ i ∈ vs1, i ∈ own.map (·.2))
    (hg : ∀ (s : Shared) (H : Hp) (C : Addr) (cl : List (Str × Addr)) (fp : List Addr), GV (X.blk s H scope (compEnvC scope cl C X.env) fp) c raw tg t ix)
    (ht : ∀ (s : Shared) (H : Hp) (C : Addr) (cl : List (Str × Addr)) (fp : List Addr), TVs (X.blk s H scope (compEnvC scope cl C X.env) fp) c.nox ifs p)
    (hi1 : ∀ (s : Shared) (H : Hp) (C : Addr) (cl : List (Str × Addr)) (fp : List Addr), IV (X.blk s H scope (compEnvC scope cl C X.env) fp) c.nox raw1 tg1 iter1 fi1)
    (hg1 : ∀ (s : Shared) (H : Hp) (C : Addr) (cl : List (Str × Addr)) (fp : List Addr), GV (X.blk s H scope (compEnvC scope cl C X.env) fp) c raw1 tg1 t1 ix1)
    (ht1 : ∀ (s : Shared) (H : Hp) (C : Addr) (cl : List (Str × Addr)) (fp : List Addr), TVs (X.blk s H scope (compEnvC scope cl C X.env) fp) c.nox ifs1 p1)
    (he : ∀ (s : Shared) (H : Hp) (C : Addr) (cl : List (Str × Addr)) (fp : List Addr), EV (X.blk s H scope (compEnvC scope cl C X.env) fp) c.nox elt g)
include hc hN hi ok hv hg ht hi1 hg1 ht1 he
theorem nv_lc2 (hix : ∀ j ∈ ix, j ∈ own.map (·.2) := by decide) (hix1 : ∀ j ∈ ix1, j ∈ vs1 := by decide) (hs : ∀ x, foldedSetIterable iter X.env x = pure x := by intro _; rfl) (hs1 : ∀ env x, foldedSetIterable iter1 env x = pure x := by intro _ _; rfl) :
    NV X c (.ListComp elt [⟨tg, iter, ifs, 0⟩, ⟨tg1, iter1, ifs1, 0⟩] scope pos) (nComp2 fi t p fi1 t1 p1 g (own.map (·.2)) vs1) :=
  pe_imp (pe_lc2 (g := gOf (gx X c.kt) raw c.r0 c.H0 t ix) (tt := tOf (gx X c.kt) RB c.r0 c.H0 (fun _ _ _ _ => False) p) (wi1 := tOf (gx X c.kt) (RI (gx X c.kt) raw1) c.r0 c.H0 (fun _ _ _ _ => False) fi1) (g1 := gOf (gx X c.kt) raw1 c.r0 c.H0 t1 ix1) (tt1 := tOf (gx X c.kt) RB c.r0 c.H0 (fun _ _ _ _ => False) p1) (te := tOf (gx X c.kt) (RE (gx X c.kt)) c.r0 c.H0 (fun _ _ _ _ => False) g) hc hN hi ok hv hg ht hi1 hg1 ht1 he hs hs1) fun _ _ _ q => comp2_read hix hix1 q
theorem es_lc2 {i : Nat} {y : Str} {py spos : Pos} (hy : X.N[i]? = some y) (hyl : X.env.scope.names.lookup y = some .local)
    (hsw : swapsWith (.ListComp elt [⟨tg, iter, ifs, 0⟩, ⟨tg1, iter1, ifs1, 0⟩] scope pos) (some (.Name y py)) spos.line X.env = pure true)
    (hix : ∀ j ∈ ix, j ∈ own.map (·.2) := by decide) (hix1 : ∀ j ∈ ix1, j ∈ vs1 := by decide) (hs : ∀ x, foldedSetIterable iter X.env x = pure x := by intro _; rfl) (hs1 : ∀ env x, foldedSetIterable iter1 env x = pure x := by intro _ _; rfl) :
    ES X c (.Assign [.Name y py] (.ListComp elt [⟨tg, iter, ifs, 0⟩, ⟨tg1, iter1, ifs1, 0⟩] scope pos) spos) (sOwn i (nComp2 fi t p fi1 t1 p1 g (own.map (·.2)) vs1)) := by
  refine ps_imp (ps_setLc2 (g := gOf (gx X c.kt) raw c.r0 c.H0 t ix) (tt := tOf (gx X c.kt) RB c.r0 c.H0 (fun _ _ _ _ => False) p) (wi1 := tOf (gx X c.kt) (RI (gx X c.kt) raw1) c.r0 c.H0 (fun _ _ _ _ => False) fi1) (g1 := gOf (gx X c.kt) raw1 c.r0 c.H0 t1 ix1) (tt1 := tOf (gx X c.kt) RB c.r0 c.H0 (fun _ _ _ _ => False) p1) (te := tOf (gx X c.kt) (RE (gx X c.kt)) c.r0 c.H0 (fun _ _ _ _ => False) g) hc hN hy hyl hsw hi ok hv hg ht hi1 hg1 ht1 he hs hs1) fun D σ H q => ?_
  refine comp2_read (c := c) hix hix1 ?_
  refine tS.first (R := RN _) (k := fun s v L1 => some (.ok (.nx (s.set i (.own v))) L1)) q fun ρ L s v L1 ρ1 H1 u r e1 t1 q1 o => ?_
  exact o ρ1 H1 _ Stb.refl (r.ownNew e1 t1 q1 i)
end
end
end Fx

set_option Elab.async false
set_option linter.all false
set_option maxRecDepth 100000
set_option maxHeartbeats 1000000
/-! Fx part 28: sorted(d) of a dict with pairs of ints for keys. -/
namespace FT
open PySem PySem.Spec PyProof.Rows L2 HT
def pk (p : Int × Int) : List Key := [Sum.inl p.1, Sum.inl p.2]
def rSortedK : List V → Hp → VK → Prop := fun vs H Q => ∃ (a : Addr) (kvs : List (List Key × V)) (ks : List (Int × Int)), vs = [V.ref a] ∧ Rd H a (.dT kvs) ∧ kvs.map (·.1) = ks.map pk ∧ ks.length ≤ sizeLine ∧
  ∀ (zs : List (Addr × (Int × Int))) p, (∀ z ∈ zs, H z.1 = some (.tup [.int z.2.1, .int z.2.2])) → (zs.map (·.2)).Perm ks → (zs.map (·.2)).Pairwise leP → H p = none → Q (.ref p) (upd H p (.lst (zs.map fun z => V.ref z.1)))
section
variable {X : Cx}
theorem kt_zip {H : Hp} : ∀ {kvs : List (List Key × V)} {ks : List (Int × Int)} {xs : List (List Key × Addr × Value)}, KT H kvs xs → kvs.map (·.1) = ks.map pk → ∀ p ∈ (xs.map fun x => x.2.1).zip ks, H p.1 = some (.tup [.int p.2.1, .int p.2.2])
  | _, [], _, .nil, _, p, hp => by simp at hp
  | _, _ :: _, _, .nil, e, p, hp => by simp at hp
  | _, [], _, .cons h t, e, p, hp => by simp at hp
  | _, k :: ks, _, .cons h t, e, p, hp => by
    rw [List.map_cons, List.map_cons] at e
    rw [List.map_cons, List.zip_cons_cons] at hp
    rcases List.mem_cons.mp hp with q | q
    · subst q
      have e1 := (List.cons.inj e).1
      have := h.2
      rw [e1] at this
      exact this.1
    · exact kt_zip t (List.cons.inj e).2 p q
open Classical in
theorem cr_sortedK (hc : X.calm = true) : CallR X (.builtin "sorted") rSortedK := by
  intro pins s σ H vs us Q I r h
  obtain ⟨a, kvs, ks, rfl, hd, hks, hkz, q⟩ := h
  obtain ⟨u, rfl, rx⟩ := vals1 r
  obtain rfl : u = Value.ref a := rx
  obtain ⟨z, hs, xs, pr, o, es, ep, ho, hx, hdt, he, hn⟩ := (show ObjOk X.prog X.w H s.heap a (.dT kvs) from hd.ok I.hok)
  have l1 : es.size = xs.length := size_of_entries he
  have l2 : kvs.length = xs.length := Paired.length pr
  have l3 : kvs.length = ks.length := by simpa using congrArg List.length hks
  have hzp := kt_zip pr hks
  generalize hbs : (xs.map fun x => x.2.1) = bs at hzp
  have hlen : bs.length = ks.length := by rw [← hbs, List.length_map]; omega
  let k : Value → Int × Int := fun u => if h : ∃ p : Int × Int, Srt.IsPair s.heap u p.1 p.2 then h.choose else (0, 0)
  have isp : ∀ p ∈ bs.zip ks, Srt.IsPair s.heap (.ref p.1) p.2.1 p.2.2 := fun p hm => by
    obtain ⟨_, its2, r2, o, ho, hc, n, hd⟩ := I.hok _ _ (hzp p hm)
    obtain ⟨u1, u2, rfl, ri, rj⟩ := vals2 r2
    obtain ⟨t1, rfl⟩ := ri
    obtain ⟨t2, rfl⟩ := rj
    exact ⟨p.1, o, t1, t2, n, rfl, ho, hc, hd⟩
  have uniq : ∀ (u : Value) (p q : Int × Int), Srt.IsPair s.heap u p.1 p.2 → Srt.IsPair s.heap u q.1 q.2 → p = q := fun u p q h1 h2 => by
    obtain ⟨t, o, t1, t2, n, rfl, ho, hc, hd⟩ := h1
    obtain ⟨t', o', t1', t2', n', e, ho', hc', hd'⟩ := h2
    cases e
    rw [ho] at ho'
    cases ho'
    rw [hd] at hd'
    injection hd' with e1 e2
    have e3 := congrArg Array.toList e1
    simp at e3
    exact Prod.ext e3.1.1 e3.2.1
  have hk : ∀ p ∈ bs.zip ks, k (.ref p.1) = p.2 := fun p hm => by
    have ex : ∃ q : Int × Int, Srt.IsPair s.heap (.ref p.1) q.1 q.2 := ⟨p.2, isp p hm⟩
    show (if h : ∃ q : Int × Int, Srt.IsPair s.heap (.ref p.1) q.1 q.2 then h.choose else (0, 0)) = _
    rw [dif_pos ex]
    exact uniq _ _ _ ex.choose_spec (isp p hm)
  have hzip := zip_map_eq (fun t => t) (fun t => k (.ref t)) hlen hk
  refine Calls.call_function_entry PyProof.Rows.kind_sorted PyProof.Rows.plain_sorted PyProof.Rows.entry_sorted (PyProof.Rows.args_sorted1 _) ?_
  unfold Builtin.«sorted»
  refine wpAny_bind (m := checkCount "sorted" 1 1 _) (wpAny_pure ?_)
  refine wpAny_bind (PySem.W.kdu_collect (A := X.A.in1) (kdl_raw hs hx hdt) (I.ok.hd hc) ho (by omega) fun h' tk acc kp it => ?_)
  have ea : acc.toList = bs.map Value.ref := by
    have hl : acc.toList.length = xs.length := by rw [Array.length_toList, it.1]; exact l1
    rw [← hbs, List.map_map]
    apply List.ext_getElem?
    intro j
    rw [List.getElem?_map]
    cases hj : acc.toList[j]? with
    | none =>
      have h1 := List.getElem?_eq_none_iff.mp hj
      rw [List.getElem?_eq_none (by omega)]
      all_goals rfl
    | some v =>
      obtain ⟨en, hen, hv⟩ := it.2 j v (by rw [← Array.getElem?_toList]; exact hj)
      have qe := entry_at he j
      rw [hen] at qe
      cases hb : xs[j]? with
      | none =>
        rw [hb] at qe
        exact nomatch (show some en = none from qe)
      | some b =>
        rw [hb] at qe
        have e2 : en = entryOfKey (tupleKind (mixKind X.prog X.w)) b := Option.some.inj qe
        rw [hv, e2]
        all_goals rfl
  have I1 : Inv X pins σ H { s with heap := h', toks := tk } := I.kept kp
  have hal : acc.toList.length ≤ sizeLine := by rw [ea, List.length_map]; omega
  refine wpAny_bind (wpAny_newList ?_ hal)
  have hoL : (h'.push (seqObj "list" acc.toList.toArray 0)).get? h'.objs.size = some (seqObj "list" acc.toList.toArray 0) := Heap.get?_push_size _ rfl
  show wpAny _ _ _ _ _ { s with heap := h'.push (seqObj "list" acc.toList.toArray 0), toks := tk }
  have isv : ∀ v ∈ acc.toList, Srt.IsPair s.heap v (k v).1 (k v).2 := fun v hv => by
    rw [ea] at hv
    obtain ⟨t, ht, rfl⟩ := List.mem_map.mp hv
    have hm : (t, k (.ref t)) ∈ bs.zip ks := by rw [hzip]; exact List.mem_map.mpr ⟨t, ht, rfl⟩
    exact isp _ hm
  have old : ∀ b o, s.heap.get? b = some o → (h'.push (seqObj "list" acc.toList.toArray 0)).get? b = some o := fun b o e => Heap.get?_push_of_some _ (kp b o e)
  refine wpAny_bind (wpAny_holding (wpAny_call_entry PyProof.Rows.slot_list_sort ⟨_, hoL, rfl⟩ PyProof.Rows.entry_list_sort
    (SrtO.list_sort_ord (s := { s with heap := h'.push (seqObj "list" acc.toList.toArray 0), toks := tk }) (SrtO.swo_lex k) hoL hal (fun h2 => ?_) fun out h1 h2 => ⟨_, rfl, ?_⟩) (PyProof.Rows.args_list_sort _)))
  · refine SrtO.pairs_sortableO (by omega) (fun v hm => (isv v hm).keeps fun b o e _ => old b o e) fun o e => ?_
    have e' : some o = some (seqObj "list" acc.toList.toArray 0) := e.symm.trans hoL
    cases e'
    intro c
    exact absurd (Value.type.inj c) (by decide)
  · have h3 : ∀ u ∈ out, u = Value.ref (adr u) := fun u hu => by
      have := h2.perm.mem_iff.mp hu
      rw [ea] at this
      obtain ⟨t, _, rfl⟩ := List.mem_map.mp this
      rfl
    have eo : out = (out.map adr).map Value.ref := by
      rw [List.map_map]
      conv => lhs; rw [← List.map_id out]
      exact List.map_congr_left h3
    have pa : (out.map adr).Perm bs := by
      have := h2.perm.map adr
      rw [ea, List.map_map] at this
      simpa [Function.comp_def, adr] using this
    obtain ⟨n, hn⟩ := PyProof.Rows.sortedHeap_at (vs := acc.toList) (out := out.toArray) hoL
    have pz : ((out.map adr).map fun t => (t, k (.ref t))).Perm (bs.zip ks) := by rw [hzip]; exact pa.map _
    refine wpAny_pure ⟨_, rfl, .ref h'.objs.size, upd H h'.objs.size (.lst (((out.map adr).map fun t => (t, k (.ref t))).map fun z => V.ref z.1)), I1.laid (t' := tk) (fun b u e => ?_) (Nat.le_refl _) ⟨?_, out, n, ?_, hn⟩, rfl, q _ _ (fun z hz => hzp z (pz.mem_iff.mp hz)) ?_ ?_ (I1.hok.fresh (Nat.le_refl _))⟩
    · have hb : b < h'.objs.size := Heap.lt_size e
      rw [PyProof.Rows.sortedHeap_old (Nat.ne_of_lt hb) (by rw [size_push']; exact Nat.lt_succ_of_lt hb)]
      exact Heap.get?_push_of_some _ e
    · rw [List.length_map, List.length_map, List.length_map, h2.perm.length_eq]
      exact hal
    · rw [List.map_map]
      have e2 : ((fun z : Addr × (Int × Int) => V.ref z.1) ∘ fun t => (t, k (.ref t))) = V.ref := rfl
      rw [e2]
      conv => rhs; rw [eo]
      generalize out.map adr = l
      induction l with
      | nil => exact .nil
      | cons x l ih => exact .cons rfl ih
    · have := pz.map (·.2)
      rwa [List.map_snd_zip (by omega)] at this
    · rw [List.map_map, List.map_map, List.pairwise_map]
      refine h1.imp_of_mem fun {x y} hx hy hxy => ?_
      show leP (k (.ref (adr x))) (k (.ref (adr y)))
      rw [← h3 x hx, ← h3 y hy]
      have := SrtO.lexB_no.mp hxy
      unfold leP
      omega
end
end FT
namespace Fx
open PySem L2
def pairKeys : List (List Key) → Option (List (Int × Int))
  | [] => some []
  | [.inl i, .inl j] :: r => (pairKeys r).map ((i, j) :: ·)
  | _ :: _ => none
theorem pairKeys_some : ∀ {xs : List (List Key)} {ks : List (Int × Int)}, pairKeys xs = some ks → xs = ks.map FT.pk
  | [], ks, h => by cases h; rfl
  | [.inl i, .inl j] :: xs, ks, h => by
    have h : (pairKeys xs).map ((i, j) :: ·) = some ks := h
    cases q : pairKeys xs with
    | none => rw [q] at h; cases h
    | some l =>
      rw [q] at h
      cases h
      rw [pairKeys_some q]
      rfl
  | [] :: xs, ks, h => by cases h
  | [.inl _] :: xs, ks, h => by cases h
  | [.inr _] :: xs, ks, h => by cases h
  | [.inl _, .inr _] :: xs, ks, h => by cases h
  | [.inr _, _] :: xs, ks, h => by cases h
  | (.inl _ :: .inl _ :: _ :: _) :: xs, ks, h => by cases h
  | (.inl _ :: .inr _ :: _ :: _) :: xs, ks, h => by cases h
  | (.inr _ :: _ :: _ :: _) :: xs, ks, h => by cases h
theorem pairKeys_map : ∀ ks : List (Int × Int), pairKeys (ks.map FT.pk) = some ks
  | [] => rfl
  | k :: ks => by
    show (pairKeys (ks.map FT.pk)).map _ = _
    rw [pairKeys_map ks]
    rfl
/-- sorted(d), d a dict with pairs of ints for keys -/
def nSortedK (L : Store) (x : Hd) : Option Cell := match view L x with
  | some (.dt kvs) => (pairKeys (kvs.map (·.1))).bind fun ks => if ks.length ≤ sizeLine then some (.lst ((sortPr ks).map pvPair)) else none
  | _ => none
theorem reps_of_mem0 {G : Gx} {ρ : List Addr} {H : Hp} (hk : G.kt = false) : ∀ zs : List (Addr × (Int × Int)), (∀ z ∈ zs, H z.1 = some (.tup [.int z.2.1, .int z.2.2])) → Reps G ρ H ((zs.map (·.2)).map pvPair) (zs.map fun z => V.ref z.1)
  | [], _ => .nil
  | z :: zs, h => .cons ⟨z.1, _, rfl, .inl ⟨by rw [hk]; rfl, h z (by simp)⟩, .cons rfl (.cons rfl .nil)⟩ (reps_of_mem0 hk zs fun y hy => h y (by simp [hy]))
theorem cn_sortedK {G : Gx} (hkt : G.kt = false) : CalN G nSortedK FT.rSortedK := by
  intro ρ L H x v z Q t hx hz k
  unfold nSortedK at hz
  cases hw : view L x with
  | none => rw [hw] at hz; cases hz
  | some vw =>
    rw [hw] at hz
    have hr := view_rep t hx hw
    cases vw with
    | dt kvs =>
      dsimp only at hz
      cases hp : pairKeys (kvs.map (·.1)) with
      | none => rw [hp] at hz; cases hz
      | some ks =>
        rw [hp] at hz
        dsimp only [Option.bind] at hz
        split at hz
        · rename_i hkz
          cases hz
          obtain ⟨a, l, rfl, ha, hl⟩ := hr
          refine ⟨a, l, ks, rfl, ha, by rw [hl.1]; exact pairKeys_some hp, hkz, fun zs p hzs pm pw hn => ?_⟩
          have e : zs.map (·.2) = sortPr ks := sortPr_eq pm pw
          have hrep := reps_of_mem0 (ρ := ρ) hkt zs hzs
          rw [e] at hrep
          obtain ⟨k1, k2, k3, k4⟩ := Cell.new t hrep hn
          exact k ρ _ p k1 k2 k3 hn k4
        · cases hz
    | _ => cases hz
theorem nv_sortedK {X : Cx} {c : FC} {a : Expr} {f : FF Hd} {p pos : Pos} (hc : X.calm = true) (hk : c.kt = false) (hg : Gl X "sorted") (hm : X.mg "sorted" = none) (ha : HV X c a f) (he : starEach (a :: []) X.env = (false, eval a X.env) :: starEach [] X.env := by rfl) : NV X c (.Call (.Name "sorted" p) [a] [] pos) (nCall1 nSortedK f) :=
  nv_cB (FT.cr_sortedK hc) (cn_sortedK hk) hg hm (by decide +kernel) ha (by decide) (by decide) he
end Fx

set_option Elab.async false
set_option linter.all false
set_option maxRecDepth 100000
set_option maxHeartbeats 1000000
/-! Fx part 29: a, b = [..], y where a name is a cell; x += y; {k: v}; max, min of a list of ints. -/
namespace Fx
open PySem L2
section
variable {X : Cx} {c : FC} {i j : Nat} {x y : Str} {a b : Expr} {f g : EF} {fc gc : CF} {px py pt pos : Pos} {kt k2 : Nat} {pt2 : Pos}
theorem es_tupO (hc : X.calm = true) (hN : X.N.Nodup) (hi : X.N[i]? = some x) (hj : X.N[j]? = some y) (hx : Loc X.env.scope x) (hy : Loc X.env.scope y) (hfx : X.fn x = true ∨ X.env.scope.names.lookup x = some .local) (hfy : X.fn y = true ∨ X.env.scope.names.lookup y = some .local) (ha : NV X c a fc) (hb : EV X c b g)
    (hw : swappedStores [.Tuple [.Name x px, .Name y py] kt pt] (.Tuple [a, b] k2 pt2) X.env = pure none := by rfl)
    (hs : swapsWithSole [.Tuple [.Name x px, .Name y py] kt pt] (.Tuple [a, b] k2 pt2) pos.line X.env = pure false := by rfl) (he : starEach (a :: [b]) X.env = (false, eval a X.env) :: starEach [b] X.env := by rfl) (he' : starEach [b] X.env = (false, eval b X.env) :: starEach [] X.env := by rfl)
    (h1 : (assignEach [.Tuple [.Name x px, .Name y py] kt pt] X.env).map (·.2) = [assign (.Tuple [.Name x px, .Name y py] kt pt) X.env] := by rfl) :
    ES X c (.Assign [.Tuple [.Name x px, .Name y py] kt pt] (.Tuple [a, b] k2 pt2) pos) (sParO i j fc g) := ps_imp (ps_asg (pe_tup (pa_cons ha (pa_cons hb pa_nil he') he)) (pg_tup hc (pgs_cons (pg_name hN hi hx hfx) (pgs_cons (pg_name hN hj hy hfy) pgs_nil)) rfl rfl) hs hw h1) fun D σ H q => by
  refine tS.first (R := RN _) (k := fun s v L1 => bnd (g s L1) fun w L2 => some (.ok (.nx ((s.set i (.own v)).set j (.val w))) L2)) q fun ρ L s v L1 ρ1 H1 u r e1 t1 q1 o => ?_
  refine ⟨ρ1, L1, s, r.go e1 t1, OuS.bind (R := RE _) o (r.ext.trans e1) fun w L2 ρ2 H2 u2 _ e2 t2 q2 o2 => ?_⟩
  refine ⟨(by decide : 2 ≤ sizeLine), fun p hp => ⟨p, [u, u2], rfl, .inl (.inl upd_same), rfl, u, [u2], rfl, u2, [], rfl, rfl, ?_⟩⟩
  exact o2 ρ2 _ _ (Ext.new hp).toStb ((((r.ownNew e1 t1 q1 i).go e2 t2).set q2).new hp)
theorem es_tupV (hc : X.calm = true) (hN : X.N.Nodup) (hi : X.N[i]? = some x) (hj : X.N[j]? = some y) (hx : Loc X.env.scope x) (hy : Loc X.env.scope y) (hfx : X.fn x = true ∨ X.env.scope.names.lookup x = some .local) (hfy : X.fn y = true ∨ X.env.scope.names.lookup y = some .local) (ha : EV X c a f) (hb : NV X c b gc)
    (hw : swappedStores [.Tuple [.Name x px, .Name y py] kt pt] (.Tuple [a, b] k2 pt2) X.env = pure none := by rfl)
    (hs : swapsWithSole [.Tuple [.Name x px, .Name y py] kt pt] (.Tuple [a, b] k2 pt2) pos.line X.env = pure false := by rfl) (he : starEach (a :: [b]) X.env = (false, eval a X.env) :: starEach [b] X.env := by rfl) (he' : starEach [b] X.env = (false, eval b X.env) :: starEach [] X.env := by rfl)
    (h1 : (assignEach [.Tuple [.Name x px, .Name y py] kt pt] X.env).map (·.2) = [assign (.Tuple [.Name x px, .Name y py] kt pt) X.env] := by rfl) :
    ES X c (.Assign [.Tuple [.Name x px, .Name y py] kt pt] (.Tuple [a, b] k2 pt2) pos) (sParV i j f gc) := ps_imp (ps_asg (pe_tup (pa_cons ha (pa_cons hb pa_nil he') he)) (pg_tup hc (pgs_cons (pg_name hN hi hx hfx) (pgs_cons (pg_name hN hj hy hfy) pgs_nil)) rfl rfl) hs hw h1) fun D σ H q => by
  refine tS.first (R := RE _) (k := fun s v L1 => bnd (gc s L1) fun w L2 => some (.ok (.nx ((s.set i (.val v)).set j (.own w))) L2)) q fun ρ L s v L1 ρ1 H1 u r e1 t1 q1 o => ?_
  refine ⟨ρ1, L1, s, r.go e1 t1, OuS.bind (R := RN _) o (r.ext.trans e1) fun w L2 ρ2 H2 u2 _ e2 t2 q2 o2 => ?_⟩
  refine ⟨(by decide : 2 ≤ sizeLine), fun p hp => ⟨p, [u, u2], rfl, .inl (.inl upd_same), rfl, u, [u2], rfl, u2, [], rfl, rfl, ?_⟩⟩
  exact o2 ρ2 _ _ (Ext.new hp).toStb ((((r.go e1 t1).set q1).ownNew e2 t2 q2 j).new hp)
/-- x += e, both ints -/
def sAugI (i : Nat) (f : EF) : SF := fun s L => match s[i]? with
  | some (.val (.int n)) => bnd (f s L) fun v L1 => match v with
    | .int m => some (.ok (.nx (s.set i (.val (.int (n + m))))) L1)
    | _ => none
  | _ => none
theorem es_aug {e : Expr} (hN : X.N.Nodup) (hi : X.N[i]? = some x) (hx : Loc X.env.scope x) (he : EV X c e f) (hf : X.fn x = true ∨ X.env.scope.names.lookup x = some .local := by first | exact .inl rfl | exact .inr rfl | assumption) : ES X c (.AugAssign (.Name x px) .Add e pos) (sAugI i f) := ps_imp (ps_aug hN hi hx he ip_add hf) fun D σ H q => by
  obtain ⟨ρ, L, s, r, o⟩ := q
  unfold sAugI at o
  cases hs : s[i]? with
  | none => rw [hs] at o; exact o.elim
  | some w =>
    cases w with
    | val v =>
      cases v with
      | int n =>
        rw [hs] at o
        obtain ⟨β, qq⟩ := r.sl
        obtain ⟨u, h1, h2⟩ := qq.val i _ hs
        obtain rfl : u = .int n := h2
        refine ⟨.int n, h1, ρ, L, s, r, OuS.bind (R := RE _) o r.ext fun v L1 ρ1 H1 w _ e1 t1 q1 o1 => ?_⟩
        cases v with
        | int m =>
          obtain rfl : w = .int m := q1
          exact ⟨n, m, rfl, rfl, o1 ρ1 H1 _ Stb.refl ((r.go e1 t1).set (x := .int (n + m)) rfl)⟩
        | _ => exact o1.elim
      | _ => rw [hs] at o; exact o.elim
    | _ => rw [hs] at o; exact o.elim
/-- {k: v} -/
def nDk1 (fk fv : EF) : CF := fun s L => bnd (fk s L) fun k L1 => bnd (fv s L1) fun v L2 => match keyOf k with
  | some kk => some (.ok (.dk [(kk, v)]) L2)
  | none => none
theorem nv_dk1 {ek ev : Expr} {fk fv : EF} (hk : EV X c ek fk) (hv : EV X c ev fv) : NV X c (.Dict [some ek] [ev] pos) (nDk1 fk fv) := pe_imp (pe_disp (pps_cons hk hv pps_nil) rfl rfl (by simp) (by simp)) fun σ H Q q => by
  intro p hp
  obtain ⟨ρ, L, s, r, o⟩ := q
  have r1 := r.new (u := .dK []) hp
  have pn : p ∉ ρ := r.st.fresh hp
  have e0 : Ext ρ ρ H (upd H p (.dK [])) := Ext.new hp
  have o : Ou (gx X c.kt) (RN (gx X c.kt)) c.W ρ σ H Q (bnd (fk s L) fun k L1 => bnd (fv s L1) fun v L2 => match keyOf k with
    | some kk => some (.ok (.dk [(kk, v)]) L2)
    | none => none) := o
  show tOf _ _ _ _ _ fk σ (upd H p (.dK [])) _
  refine ⟨ρ, L, s, r1, ?_⟩
  cases h1 : fk s L with
  | none => rw [h1] at o; exact o.elim
  | some w =>
    cases w with
    | err x L1 =>
      rw [h1] at o
      exact fun ρ' H' cls d f t q => o ρ' H' cls d (e0.trans f) t q
    | ok k L1 =>
      rw [h1, bnd_ok] at o
      intro ρ1 H1 kv e1 t1 rk
      have p1 : H1 p = some (.dK []) := e1.keep _ _ pn upd_same
      have n1 : p ∉ ρ1 := e1.notin pn upd_same
      show tOf _ _ _ _ _ fv σ H1 _
      refine ⟨ρ1, L1, s, r1.go e1 t1, ?_⟩
      cases h2 : fv s L1 with
      | none => rw [h2] at o; exact o.elim
      | some w =>
        cases w with
        | err x L2 =>
          rw [h2] at o
          exact fun ρ' H' cls d f t q => o ρ' H' cls d ((e0.trans e1).trans f) t q
        | ok v L2 =>
          rw [h2, bnd_ok] at o
          intro ρ2 H2 vv e2 t2 rv
          have p2 : H2 p = some (.dK []) := e2.keep _ _ n1 p1
          have n2 : p ∉ ρ2 := e2.notin n1 p1
          cases hk : keyOf k with
          | none => rw [hk] at o; exact o.elim
          | some kk =>
            rw [hk] at o
            refine ⟨p2, [(kk, vv)], by rw [keyOf_rep rk hk]; rfl, by simp, ?_⟩
            have st : Stb ρ2 ρ2 H2 (upd H2 p (.dK [(kk, vv)])) := Stb.mut p2 trivial
            exact o ρ2 _ _ (((e0.trans e1).trans e2).mutNew hp p2 trivial) (t2.mutOut n2 p2 trivial) ⟨p, rfl, n2, hp, [(kk, vv)], upd_same, rfl, .cons (rv.mono st) .nil⟩
/-! ### max, min of a list of ints -/
def maxL : List Int → Int
  | [] => 0
  | [a] => a
  | a :: r => if maxL r ≥ a then maxL r else a
def minL : List Int → Int
  | [] => 0
  | [a] => a
  | a :: r => if minL r ≤ a then minL r else a
theorem maxL_spec : ∀ {ns : List Int}, ns ≠ [] → maxL ns ∈ ns ∧ ∀ y ∈ ns, y ≤ maxL ns
  | [], h => absurd rfl h
  | [a], _ => ⟨by simp [maxL], fun y hy => by simp at hy; simp [maxL, hy]⟩
  | a :: b :: r, _ => by
    obtain ⟨h1, h2⟩ := maxL_spec (ns := b :: r) (by simp)
    show (if maxL (b :: r) ≥ a then maxL (b :: r) else a) ∈ _ ∧ ∀ y ∈ _, y ≤ (if maxL (b :: r) ≥ a then maxL (b :: r) else a)
    split
    · rename_i h
      exact ⟨List.mem_cons_of_mem _ h1, fun y hy => by
        rcases List.mem_cons.mp hy with e | e
        · rw [e]; exact h
        · exact h2 y e⟩
    · rename_i h
      exact ⟨List.mem_cons_self, fun y hy => by
        rcases List.mem_cons.mp hy with e | e
        · rw [e]; exact Int.le_refl _
        · have := h2 y e; omega⟩
theorem minL_spec : ∀ {ns : List Int}, ns ≠ [] → minL ns ∈ ns ∧ ∀ y ∈ ns, minL ns ≤ y
  | [], h => absurd rfl h
  | [a], _ => ⟨by simp [minL], fun y hy => by simp at hy; simp [minL, hy]⟩
  | a :: b :: r, _ => by
    obtain ⟨h1, h2⟩ := minL_spec (ns := b :: r) (by simp)
    show (if minL (b :: r) ≤ a then minL (b :: r) else a) ∈ _ ∧ ∀ y ∈ _, (if minL (b :: r) ≤ a then minL (b :: r) else a) ≤ y
    split
    · rename_i h
      exact ⟨List.mem_cons_of_mem _ h1, fun y hy => by
        rcases List.mem_cons.mp hy with e | e
        · rw [e]; exact h
        · exact h2 y e⟩
    · rename_i h
      exact ⟨List.mem_cons_self, fun y hy => by
        rcases List.mem_cons.mp hy with e | e
        · rw [e]; exact Int.le_refl _
        · have := h2 y e; omega⟩
theorem maxL_eq {ns : List Int} {m : Int} (h1 : m ∈ ns) (h2 : ∀ y ∈ ns, y ≤ m) : m = maxL ns := by
  have hn : ns ≠ [] := fun e => by rw [e] at h1; cases h1
  obtain ⟨k1, k2⟩ := maxL_spec hn
  have := h2 _ k1
  have := k2 _ h1
  omega
theorem minL_eq {ns : List Int} {m : Int} (h1 : m ∈ ns) (h2 : ∀ y ∈ ns, m ≤ y) : m = minL ns := by
  have hn : ns ≠ [] := fun e => by rw [e] at h1; cases h1
  obtain ⟨k1, k2⟩ := minL_spec hn
  have := h2 _ k1
  have := k2 _ h1
  omega
def hMaxL (L : Store) (x : Hd) : Option PV := match view L x with
  | some (.lst xs) => (intsOf xs).bind fun ns => if ns = [] then none else some (.int (maxL ns))
  | _ => none
def hMinL (L : Store) (x : Hd) : Option PV := match view L x with
  | some (.lst xs) => (intsOf xs).bind fun ns => if ns = [] then none else some (.int (minL ns))
  | _ => none
theorem c1_maxL {G : Gx} {K : PySem.W.Frag} (hK : G.K = K) : Cal1 G hMaxL (rMax K) := by
  subst hK
  intro ρ L H x v z Q t hx hz k
  unfold hMaxL at hz
  cases hw : view L x with
  | none => rw [hw] at hz; cases hz
  | some vw =>
    rw [hw] at hz
    have hr := view_rep t hx hw
    cases vw with
    | lst xs =>
      dsimp only at hz
      cases hp : intsOf xs with
      | none => rw [hp] at hz; cases hz
      | some ns =>
        rw [hp] at hz
        dsimp only [Option.bind] at hz
        split at hz
        · cases hz
        · rename_i hne
          cases hz
          obtain ⟨a, vs, rfl, ha, hs⟩ := hr
          have := intsOf_rep hp hs
          subst this
          exact ⟨a, ns, rfl, .inl ha, List.length_pos_iff.mpr hne, fun m h1 h2 => k ρ H _ Ext.refl t (by rw [maxL_eq h1 h2]; rfl)⟩
    | _ => cases hz
theorem c1_minL {G : Gx} {K : PySem.W.Frag} (hK : G.K = K) : Cal1 G hMinL (rMin K) := by
  subst hK
  intro ρ L H x v z Q t hx hz k
  unfold hMinL at hz
  cases hw : view L x with
  | none => rw [hw] at hz; cases hz
  | some vw =>
    rw [hw] at hz
    have hr := view_rep t hx hw
    cases vw with
    | lst xs =>
      dsimp only at hz
      cases hp : intsOf xs with
      | none => rw [hp] at hz; cases hz
      | some ns =>
        rw [hp] at hz
        dsimp only [Option.bind] at hz
        split at hz
        · cases hz
        · rename_i hne
          cases hz
          obtain ⟨a, vs, rfl, ha, hs⟩ := hr
          have := intsOf_rep hp hs
          subst this
          exact ⟨a, ns, rfl, .inl ha, List.length_pos_iff.mpr hne, fun m h1 h2 => k ρ H _ Ext.refl t (by rw [minL_eq h1 h2]; rfl)⟩
    | _ => cases hz
theorem ev_maxL {e : Expr} {f : FF Hd} {p : Pos} (hc : X.calm = true) (hg : Gl X "max") (hm : X.mg "max" = none) (ha : HV X c e f) (he : starEach (e :: []) X.env = (false, eval e X.env) :: starEach [] X.env := by rfl) : EV X c (.Call (.Name "max" p) [e] [] pos) (eCall1 hMaxL f) :=
  ev_cB (cr_max hc) (c1_maxL rfl) hg hm (by decide +kernel) ha (by decide) (by decide) he
theorem ev_minL {e : Expr} {f : FF Hd} {p : Pos} (hc : X.calm = true) (hg : Gl X "min") (hm : X.mg "min" = none) (ha : HV X c e f) (he : starEach (e :: []) X.env = (false, eval e X.env) :: starEach [] X.env := by rfl) : EV X c (.Call (.Name "min" p) [e] [] pos) (eCall1 hMinL f) :=
  ev_cB (cr_min hc) (c1_minL rfl) hg hm (by decide +kernel) ha (by decide) (by decide) he
end
end Fx

set_option Elab.async false
set_option linter.all false
set_option maxRecDepth 100000
set_option maxHeartbeats 1000000
/-! Fx part 30: the plain side of Fx25..29. -/
namespace Fx
open PySem L2
section
variable {f g fk fv : EF} {s : Slots} {L : Store} {i : Nat} {h : SF} {P : Flw → Store → Prop} {kt : Bool}
@[simp] theorem sAugI_at : sAugI i f s L = match s[i]? with
  | some (.val (.int n)) => bnd (f s L) fun v L1 => match v with
    | .int m => some (.ok (.nx (s.set i (.val (.int (n + m))))) L1)
    | _ => none
  | _ => none := rfl
@[simp] theorem nDk1_at : nDk1 fk fv s L = bnd (fk s L) fun k L1 => bnd (fv s L1) fun v L2 => match keyOf k with
  | some kk => some (.ok (.dk [(kk, v)]) L2)
  | none => none := rfl
@[simp] theorem hMaxL_l {xs : List PV} : hMaxL L (.v (.lst xs)) = (intsOf xs).bind fun ns => if ns = [] then none else some (.int (maxL ns)) := rfl
@[simp] theorem hMinL_l {xs : List PV} : hMinL L (.v (.lst xs)) = (intsOf xs).bind fun ns => if ns = [] then none else some (.int (minL ns)) := rfl
end
end Fx

set_option Elab.async false
set_option linter.all false
set_option maxRecDepth 100000
set_option maxHeartbeats 1000000
/-! Fx part 31: dicts with ints for keys. -/
namespace Fx
open PySem L2
section
variable {α : Type} {f : α → PV} {Q : Int → α → Prop} {lo n : Nat} {c : Cell}
def kvI (f : α → PV) (ms : List (Int × α)) : List (Key × PV) := ms.map fun r => (.inl r.1, f r.2)
def SI (f : α → PV) (Q : Int → α → Prop) (lo n : Nat) (c : Cell) : Prop := ∃ ms : List (Int × α), c = .dk (kvI f ms) ∧ (ms.map (·.1)).Nodup ∧ (lo ≤ ms.length ∧ ms.length ≤ n) ∧ ∀ r ∈ ms, Q r.1 r.2
theorem SI.nil : SI f Q 0 0 (.dk []) := ⟨[], rfl, by simp, by simp, by simp⟩
theorem SI.mono {m : Nat} (h : SI f Q lo n c) (hm : n ≤ m) : SI f Q lo m c := by
  obtain ⟨ms, h1, h2, h3, h4⟩ := h
  exact ⟨ms, h1, h2, ⟨h3.1, Nat.le_trans h3.2 hm⟩, h4⟩
def putI (ms : List (Int × α)) (k : Int) (a : α) : List (Int × α) := if (ms.any fun r => decide (r.1 = k)) = true then ms.map fun r => if r.1 = k then (r.1, a) else r else ms ++ [(k, a)]
theorem kvI_put (ms : List (Int × α)) (k : Int) (a : α) : put (kvI f ms) (.inl k) (f a) = kvI f (putI ms k a) := by
  unfold put putI kvI
  have e : ((ms.map fun r => ((.inl r.1 : Key), f r.2)).any fun kv => decide (kv.1 = (.inl k : Key))) = ms.any fun r => decide (r.1 = k) := by
    rw [List.any_map]
    congr 1
    funext r
    simp
  rw [e]
  split
  · rw [List.map_map, List.map_map]
    refine List.map_congr_left fun r hr => ?_
    by_cases h : r.1 = k
    · simp [h]
    · have h' : ¬ ((.inl r.1 : Key) = .inl k) := fun q => h (Sum.inl.inj q)
      simp [h, h']
  · simp
theorem putI_keys (ms : List (Int × α)) (k : Int) (a : α) : (putI ms k a).map (·.1) = if k ∈ ms.map (·.1) then ms.map (·.1) else ms.map (·.1) ++ [k] := by
  unfold putI
  by_cases h : k ∈ ms.map (·.1)
  · have : (ms.any fun r => decide (r.1 = k)) = true := by
      obtain ⟨r, hr, rfl⟩ := List.mem_map.mp h
      exact List.any_eq_true.mpr ⟨r, hr, by simp⟩
    rw [if_pos this, if_pos h, List.map_map]
    refine List.map_congr_left fun r hr => ?_
    by_cases q : r.1 = k <;> simp [q]
  · have : ¬ (ms.any fun r => decide (r.1 = k)) = true := fun q => by
      obtain ⟨r, hr, e⟩ := List.any_eq_true.mp q
      exact h (List.mem_map.mpr ⟨r, hr, by simpa using e⟩)
    rw [if_neg this, if_neg h]
    simp
theorem putI_mem {ms : List (Int × α)} {k : Int} {a : α} {r : Int × α} (h : r ∈ putI ms k a) : r = (k, a) ∨ r ∈ ms := by
  unfold putI at h
  split at h
  · obtain ⟨x, hx, rfl⟩ := List.mem_map.mp h
    by_cases q : x.1 = k
    · left; simp [q]
    · right; simpa [q] using hx
  · rcases List.mem_append.mp h with q | q
    · exact .inr q
    · exact .inl (by simpa using q)
theorem putI_length (ms : List (Int × α)) (k : Int) (a : α) : (putI ms k a).length ≤ ms.length + 1 := by
  unfold putI
  split <;> simp
theorem SI.put {kt : Bool} {k : Int} {a : α} (h : SI f Q lo n c) (hl : lo ≤ 1) (hn : n < 100000) (hq : Q k a) : ∃ c', setC kt c (.int k) (f a) = some c' ∧ SI f Q 1 (n + 1) c' := by
  obtain ⟨ms, rfl, h2, h3, h4⟩ := h
  refine ⟨.dk (kvI f (putI ms k a)), ?_, putI ms k a, rfl, ?_, ?_, fun r hr => ?_⟩
  · show (if (kvI f ms).length < sizeLine then (keyOf (.int k)).map fun k => Cell.dk (Fx.put (kvI f ms) k (f a)) else none) = _
    have hz : (kvI f ms).length < sizeLine := Nat.lt_of_lt_of_le (by unfold kvI; rw [List.length_map]; omega) (by decide : 100000 ≤ sizeLine)
    rw [if_pos hz]
    show some (Cell.dk (Fx.put (kvI f ms) (.inl k) (f a))) = _
    rw [kvI_put]
  · rw [putI_keys]
    split
    · exact h2
    · rename_i hk
      rw [List.nodup_append]
      exact ⟨h2, by simp, fun x hx y hy e => hk (by rw [List.mem_singleton.mp hy] at e; rw [← e]; exact hx)⟩
  · refine ⟨?_, Nat.le_trans (putI_length ms k a) (by omega)⟩
    unfold putI
    split
    · rename_i q
      obtain ⟨r, hr, _⟩ := List.any_eq_true.mp q
      rw [List.length_map]
      exact List.length_pos_of_mem hr
    · simp
  · rcases putI_mem hr with q | q
    · rw [q]; exact hq
    · exact h4 r q
theorem look_memI : ∀ {ms : List (Int × α)}, (ms.map (·.1)).Nodup → ∀ r ∈ ms, look (kvI f ms) (.inl r.1) = some (f r.2)
  | [], _, r, h => by simp at h
  | x :: ms, hn, r, h => by
    have hn' := List.nodup_cons.mp (show (x.1 :: ms.map (·.1)).Nodup from hn)
    unfold look kvI
    rw [List.map_cons, List.find?_cons]
    rcases List.mem_cons.mp h with e | e
    · rw [e]; simp
    · have ne : ¬ ((.inl x.1 : Key) = .inl r.1) := fun q => hn'.1 (by rw [Sum.inl.inj q]; exact List.mem_map.mpr ⟨r, e, rfl⟩)
      have := look_memI hn'.2 r e
      unfold look kvI at this
      simp only [ne, decide_false]
      exact this
theorem intKeys_kvI : ∀ ms : List (Int × α), intKeys (kvI f ms) = some (ms.map (·.1))
  | [] => rfl
  | x :: ms => by
    show (intKeys (kvI f ms)).map (x.1 :: ·) = _
    rw [intKeys_kvI ms]
    rfl
/-- sorted(d), and what stands behind each key -/
theorem SI.sorted {kt : Bool} {L : Store} (h : SI f Q lo n c) (hn : n < 64) : ∃ ms : List (Int × α), (ms.map (·.1)).Pairwise (fun a b => a < b) ∧ (lo ≤ ms.length ∧ ms.length ≤ n) ∧ (∀ r ∈ ms, Q r.1 r.2) ∧
    nSorted L (.o c) = some (.lst (ms.map fun r => .int r.1)) ∧ ∀ r ∈ ms, hIx kt L (.o c) (.int r.1) = some (f r.2) := by
  obtain ⟨ms, rfl, h2, h3, h4⟩ := h
  have hp := sortI_perm (ms.map (·.1))
  have hs := sortI_sorted (ms.map (·.1))
  have hnd : (sortI (ms.map (·.1))).Nodup := hp.nodup_iff.mpr h2
  -- each key's row
  have row : ∀ k ∈ sortI (ms.map (·.1)), ∃ a, (k, a) ∈ ms := fun k hk => by
    obtain ⟨r, hr, rfl⟩ := List.mem_map.mp (hp.mem_iff.mp hk)
    exact ⟨r.2, hr⟩
  have build : ∀ ks : List Int, (∀ k ∈ ks, ∃ a, (k, a) ∈ ms) → ∃ ns : List (Int × α), ns.map (·.1) = ks ∧ ∀ r ∈ ns, r ∈ ms := by
    intro ks
    induction ks with
    | nil => exact fun _ => ⟨[], rfl, by simp⟩
    | cons k ks ih =>
      intro hk
      obtain ⟨a, ha⟩ := hk k (by simp)
      obtain ⟨ns, e, hns⟩ := ih fun x hx => hk x (List.mem_cons_of_mem k hx)
      exact ⟨(k, a) :: ns, by simp [e], fun r hr => by
        rcases List.mem_cons.mp hr with q | q
        · rw [q]; exact ha
        · exact hns r q⟩
  obtain ⟨ns, e, hns⟩ := build _ row
  have hlen : ns.length = ms.length := by
    have := congrArg List.length e
    rw [List.length_map, hp.length_eq, List.length_map] at this
    exact this
  refine ⟨ns, ?_, by omega, fun r hr => h4 r (hns r hr), ?_, fun r hr => ?_⟩
  · rw [e]
    have hboth := hs.and hnd
    refine hboth.imp fun {a b} ⟨hle, hne⟩ => ?_
    omega
  · unfold nSorted
    rw [view_odk]
    dsimp only
    have hl : (ms.map (·.1)).length < 64 := by rw [List.length_map]; omega
    cases ms with
    | nil =>
      have : ns = [] := by simpa using hlen
      subst this
      have h0 : strKeys (kvI f []) = some [] := rfl
      rw [h0]
      have h1 : sortS [] = [] := by simp [sortS]
      simp [h1]
    | cons x ms' =>
      have h0 : strKeys (kvI f (x :: ms')) = none := rfl
      rw [h0]
      dsimp only
      rw [intKeys_kvI]
      dsimp only
      rw [if_pos hl, ← e, List.map_map]
      rfl
  · have := look_memI (f := f) h2 r (hns r hr)
    unfold hIx
    rw [view_odk]
    show (match dLook' kt (.dk (kvI f ms)) (.int r.1) with
      | some (some v) => some v
      | _ => none) = _
    have hd : dLook' kt (.dk (kvI f ms)) (.int r.1) = some (some (f r.2)) := by
      show dLook (.dk (kvI f ms)) (.int r.1) = _
      show (keyOf (.int r.1)).map (fun k => look (kvI f ms) k) = _
      show some (look (kvI f ms) (.inl r.1)) = _
      rw [this]
    rw [hd]
end
end Fx

set_option Elab.async false
set_option linter.all false
set_option maxRecDepth 100000
set_option maxHeartbeats 1000000
/-! Fx part 32: more of the plain side. -/
namespace Fx
open PySem L2
section
variable {g : SF} {s : Slots} {L : Store} {P : Flw → Store → Prop}
@[simp] theorem Ok_seqOwnM {m : Cell → List PV → Option Cell} {i : Nat} {fa : AF} : Ok (sSeq (sOwnM m i fa) g s L) P ↔ Ok (sOwnM m i fa s L) fun w L1 => match w with
  | .nx s1 => Ok (g s1 L1) P
  | w => P w L1 := Ok_seq
@[simp] theorem Ok_seqPutO {kt : Bool} {i : Nat} {fk fv : EF} : Ok (sSeq (sPutO kt i fk fv) g s L) P ↔ Ok (sPutO kt i fk fv s L) fun w L1 => match w with
  | .nx s1 => Ok (g s1 L1) P
  | w => P w L1 := Ok_seq
@[simp] theorem Ok_seqAugI {i : Nat} {f : EF} : Ok (sSeq (sAugI i f) g s L) P ↔ Ok (sAugI i f s L) fun w L1 => match w with
  | .nx s1 => Ok (g s1 L1) P
  | w => P w L1 := Ok_seq
end
end Fx

set_option Elab.async false
set_option linter.all false
set_option maxRecDepth 100000
set_option maxHeartbeats 1000000
/-! Fx part 33: [..] * n, (..) * n. -/
namespace FT
open PySem PySem.Spec PyProof.Rows L2 HT
def rRepL (K : PySem.W.Frag) : R2 := fun x y H Q => ∃ l k xs, x = .ref l ∧ y = .int k ∧ SqL K H l xs ∧ 0 ≤ k ∧ k ≤ 2 ^ 20 ∧ xs.length ≤ 8 ∧ ∀ p, H p = none → Q (.ref p) (upd H p (.lst (List.replicate k.toNat xs).flatten))
section
variable {X : Cx}
theorem flat_len {α : Type} (xs : List α) : ∀ m : Nat, (List.replicate m xs).flatten.length = m * xs.length
  | 0 => by simp
  | m + 1 => by rw [List.replicate_succ, List.flatten_cons, List.length_append, flat_len xs m, Nat.succ_mul]; omega
theorem op_repL : OpR X (binaryOp .Mult) (rRepL X.K) := by
  intro pins s σ H x y v u Q I rx ry h
  obtain ⟨l, k, xs, rfl, rfl, hT, h0, h1, hz, q⟩ := h
  cases rx
  obtain ⟨t, rfl⟩ := ry
  obtain ⟨its, r, hl, hs⟩ := I.list hT
  have hl := hl.isList
  obtain ⟨⟨cls, d, data, sl⟩, ho, hcl, n, hd⟩ := id hl
  simp only at hcl hd
  subst hcl hd
  have hle : its.length = xs.length := r.length.symm
  have hm : k.toNat * xs.length ≤ 2 ^ 20 * 8 := Nat.mul_le_mul (by omega) hz
  have hsz' : its.toArray.size * k.toNat ≤ 2 ^ 24 := by rw [List.size_toArray, hle, Nat.mul_comm]; omega
  have flen : (List.replicate k.toNat xs).flatten.length ≤ sizeLine := by rw [flat_len, sizeLine_eq]; omega
  refine wpAny_binaryOp_repeat_ref (T := "list") (U := "int") (by decide) ⟨_, ho, rfl⟩ (fun s' => typeIs_int s' k t) noFill_list_mul F.fills_int_mul F.slot_int_rmul repeat_list F.slot_int_index.lookup
    (call_meets F.slot_int_rmul (typeIs_int s k t) F.entry_int_rmul (F.args_int_rmul_2 _ _) (lm_int_rmul_list_any k t l its.toArray n d sl)
      ⟨ho, rfl, ⟨_, ho, rfl⟩, call_meets F.slot_list_mul ⟨_, ho, rfl⟩ F.entry_list_mul (F.args_list_mul_2 _ _)
        (lm_list_mul_any l its.toArray n d sl k t (by simp [Builtin.List.listFitsIndex]; omega) (by omega) (by simp [Builtin.List.listTooLong, sizeLine]; omega))
        ⟨ho, ?_⟩⟩)
  rw [listMul_foldl_if]
  refine ⟨.ref s.heap.objs.size, _, I.laid (t' := s.toks) (o := .lst (List.replicate k.toNat xs).flatten) (fun b ob q => Heap.get?_push_of_some _ q) (Nat.le_refl _) ?_, rfl, q _ (I.hok.fresh (Nat.le_refl _))⟩
  exact ⟨flen, (List.replicate k.toNat its).flatten, 0, r.rep k.toNat, Heap.get?_push_size _ rfl⟩
end
end FT
namespace Fx
open PySem L2
theorem Reps.rep {G : Gx} {ρ : List Addr} {H : Hp} {xs : List PV} {vs : List V} (h : Reps G ρ H xs vs) : ∀ m : Nat, Reps G ρ H (List.replicate m xs).flatten (List.replicate m vs).flatten
  | 0 => .nil
  | m + 1 => by
    rw [List.replicate_succ, List.flatten_cons, List.replicate_succ, List.flatten_cons]
    exact h.append (h.rep m)
def nRep (fc : CF) (g : EF) : CF := fun s L => bnd (fc s L) fun w L1 => bnd (g s L1) fun v L2 => match w, v with
  | .lst xs, .int k => if 0 ≤ k ∧ k ≤ 2 ^ 20 ∧ xs.length ≤ 8 then some (.ok (.lst (List.replicate k.toNat xs).flatten) L2) else none
  | _, _ => none
section
variable {X : Cx} {c : FC} {a b : Expr} {fc : CF} {f g : EF} {pos : Pos}
theorem nv_rep (ha : NV X c a fc) (hb : EV X c b g) : NV X c (.BinOp a .Mult b pos) (nRep fc g) := pe_imp (pe_op FT.op_repL ha hb) fun σ H Q q => by
  refine tOf.first (R := RN _) (R' := RN _) (k := fun s w L1 => bnd (g s L1) fun v L2 => match w, v with
    | .lst xs, .int k => if 0 ≤ k ∧ k ≤ 2 ^ 20 ∧ xs.length ≤ 8 then some (.ok (.lst (List.replicate k.toNat xs).flatten) L2) else none
    | _, _ => none) q fun ρ L s w L1 ρ1 H1 u r e1 q1 o => ?_
  refine ⟨ρ1, L1, s, r, Ou.bind (R := RE _) (R' := RN _) o fun v L2 ρ2 H2 u2 _ e2 t2 q2 o2 => ?_⟩
  cases w with
  | lst xs =>
    cases v with
    | int k =>
      obtain rfl : u2 = .int k := q2
      obtain ⟨a, rfl, na, ha0, vs, hav, hrs⟩ := q1
      have hav2 : H2 a = some (.lst vs) := e2.keep _ _ na hav
      dsimp only at o2
      split at o2
      · rename_i hk
        have hr2 := Reps.mono e2.toStb hrs
        refine ⟨a, k, vs, rfl, rfl, .inl (.inl hav2), hk.1, hk.2.1, by rw [← hrs.length]; exact hk.2.2, fun p hp => ?_⟩
        exact o2 ρ2 _ _ (Ext.new hp) (t2.new hp) ⟨p, rfl, t2.fresh hp, hp, _, upd_same, (hr2.rep k.toNat).mono (Ext.new hp).toStb⟩
      · exact o2.elim
    | _ => exact o2.elim
  | _ => cases v <;> exact o2.elim
/-- (..) * n, of ints -/
def hRepT (kt : Bool) : PV → PV → Option PV
  | .tup xs, .int k => if kt = false ∧ 2 ≤ k ∧ k ≤ 1000 ∧ xs.length ≤ 1000 ∧ xs.isEmpty = false then (intsOf xs).map fun ns => .tup ((List.replicate k.toNat ns).flatten.map PV.int) else none
  | _, _ => none
theorem o2_repT {G : Gx} {K : PySem.W.Frag} (hK : G.K = K) : Op2 G (hRepT G.kt) (rRepT K) := by
  subst hK
  intro ρ L H x y z v w Q t hx hy hz k
  unfold hRepT at hz
  split at hz
  · rename_i xs n
    split at hz
    · rename_i hc
      cases hn : intsOf xs with
      | none => rw [hn] at hz; cases hz
      | some ns =>
        rw [hn] at hz
        cases hz
        obtain ⟨a, vs, rfl, ha, hs⟩ := hx
        obtain rfl : w = .int n := hy
        have hv := intsOf_rep hn hs
        subst hv
        have hl := hs.length
        rw [List.length_map] at hl
        have hne : ns ≠ [] := fun q => by
          subst q
          cases xs with
          | nil => cases hc.2.2.2.2
          | cons _ _ => simp at hl
        refine ⟨a, n, _, rfl, rfl, KTup.sq ha, by simpa using hne, hc.2.1, hc.2.2.1, by rw [List.length_map]; omega, fun p hp => ?_⟩
        have e : (List.replicate n.toNat (ns.map V.int)).flatten = (List.replicate n.toNat ns).flatten.map V.int := by
          rw [List.map_flatten, List.map_replicate]
        rw [e]
        refine k ρ _ _ (Ext.new hp) (t.new hp) ⟨p, _, rfl, .inl ⟨?_, upd_same⟩, (reps_ints _).mono (Ext.new hp).toStb⟩
        unfold FT.frzT
        rw [hc.1, Bool.false_or]
        have : FT.plK ((List.replicate n.toNat ns).flatten.map V.int) = true := by
          unfold FT.plK
          rw [Bool.and_eq_true]
          refine ⟨?_, List.all_eq_true.mpr fun v hv => ?_⟩
          · have : (List.replicate n.toNat ns).flatten ≠ [] := fun q => by
              have := congrArg List.length q
              rw [FT.flat_len] at this
              have h1 : 0 < ns.length := List.length_pos_iff.mpr hne
              have h2 : 0 < n.toNat := by omega
              have h3 := Nat.mul_pos h2 h1
              simp at this
              omega
            cases hq : (List.replicate n.toNat ns).flatten with
            | nil => exact absurd hq this
            | cons _ _ => rfl
          · obtain ⟨i, _, rfl⟩ := List.mem_map.mp hv
            rfl
        rw [this]
        rfl
    · cases hz
  · cases hz
theorem ev_repT {kt : Bool} (hk : c.kt = kt) (ha : EV X c a f) (hb : EV X c b g) : EV X c (.BinOp a .Mult b pos) (eOp (hRepT kt) f g) := by
  subst hk
  exact ev_op op_repT (o2_repT rfl) ha hb
end
section
variable {fc : CF} {g : EF} {s : Slots} {L : Store}
@[simp] theorem nRep_at : nRep fc g s L = bnd (fc s L) fun w L1 => bnd (g s L1) fun v L2 => match w, v with
  | .lst xs, .int k => if 0 ≤ k ∧ k ≤ 2 ^ 20 ∧ xs.length ≤ 8 then some (.ok (.lst (List.replicate k.toNat xs).flatten) L2) else none
  | _, _ => none := rfl
@[simp] theorem hRepT_i {kt : Bool} {xs : List PV} {k : Int} : hRepT kt (.tup xs) (.int k) = if kt = false ∧ 2 ≤ k ∧ k ≤ 1000 ∧ xs.length ≤ 1000 ∧ xs.isEmpty = false then (intsOf xs).map fun ns => .tup ((List.replicate k.toNat ns).flatten.map PV.int) else none := rfl
end
end Fx

set_option Elab.async false
set_option linter.all false
set_option maxRecDepth 100000
set_option maxHeartbeats 1000000
/-! Fx part 34: a walk over a dict's keys. -/
namespace Fx
open PySem L2
def hKeys : PV → Option (List PV)
  | .dk ks xs => some (ks.map keyP)
  | _ => none
def iDk (g : EF) : AF := fun s L => bnd (g s L) fun v L1 => ret (hKeys v) L1
section
variable {X : Cx} {c : FC} {tg e : Expr} {g : EF}
theorem iv_dk (h : EV X c e g) : IV X c false tg e (iDk g) := by
  refine pi_imp (pi_keys h) fun σ H R q => ?_
  refine tOf.first (R := RE _) (R' := RI _ _) (k := fun s v L1 => ret (hKeys v) L1) q fun ρ L s v L1 ρ1 H1 u r e1 q1 o => ?_
  obtain ⟨zs, hz, k⟩ := Ou.ret o
  cases v with
  | dk ks xs =>
    cases hz
    obtain ⟨a, ob, l, rfl, hn, ha, hk, hs⟩ := q1
    subst hk
    refine ⟨a, ob, rfl, .inl ⟨l, ha, k ρ1 H1 _ Ext.refl r.st fun i ρ2 H2 st => ⟨fun hi => ?_, fun hi => ⟨st.frz _ _ _ hn ha, by simpa using hi⟩⟩⟩⟩
    have hi' : i < l.length := by simpa using hi
    refine ⟨⟨st.frz _ _ _ hn ha, hi'⟩, fun x H3 hy => ?_⟩
    obtain ⟨rfl, k', v', hkv, rfl⟩ := hy
    refine ⟨fun _ _ z => z, .inl ?_⟩
    have hli : l[i] = (k', v') := (List.getElem?_eq_some_iff.mp hkv).2
    have : (List.map keyP (List.map (·.1) l))[i] = keyP k' := by simp [hli]
    rw [this]
    exact rep_key k'
  | _ => cases hz
end
section
variable {g : EF} {s : Slots} {L : Store}
@[simp] theorem iDk_at : iDk g s L = bnd (g s L) fun v L1 => ret (hKeys v) L1 := rfl
@[simp] theorem hKeys_dk {ks : List Key} {xs : List PV} : hKeys (.dk ks xs) = some (ks.map keyP) := rfl
end
end Fx

set_option Elab.async false
set_option linter.all false
set_option maxRecDepth 100000
set_option maxHeartbeats 1000000
/-! Fx part 35: calls without arguments. -/
namespace Fx
open PySem L2
theorem ev_cl0 {X : Cx} {c : FC} {kt : Bool} {k : Nat} {f : Addr} {fd : FuncData} {ps : List Str} {g : DS} {x : Str} {p pos : Pos} (hk : c.kt = kt) (F : FnOk X.prog X.w X.K X.mg X.base CX0 k f fd ps (spG (gx X kt) 0 g)) (hsf : Safe g) (hr : Room k X.A) (hg : Gl X x) (hm : X.mg x = some (.ref f)) (hkp : PySem.W.keepIn X.K (.ref f) = true) (hb : Binds X.K fd ps [])
    (hdb : (x == ("__debug__" : Str)) = false := by decide) :
    EV X c (.Call (.Name x p) [] [] pos) (eCall 0 g aNil []) := by
  subst hk
  refine pe_imp (pe_call0 F hr hg hm hkp hb .nil (E := E0) pass0 hdb) fun σ H Q q => ?_
  obtain ⟨ρ, L, s, r, o⟩ := q
  refine ⟨ρ, L, [], r.st, rfl, rfl, ?_⟩
  change Ou _ _ _ _ _ _ _ (g ([] ++ []) L) at o
  match hgg : g [] L, o with
  | some (.ok v L2), o => exact o
  | some (.err y L2), o => exact absurd hgg (hsf _ _ _ _)
  | none, o => exact o.elim
end Fx

set_option Elab.async false
set_option linter.all false
set_option maxRecDepth 100000
set_option maxHeartbeats 1000000
/-! Fx part 36: v or w of a tuple. -/
namespace Fx
open PySem L2
/-- what a tuple is worth, asked for its truth -/
def truT : PV → Option Bool
  | .tup xs => some (!xs.isEmpty)
  | _ => none
def eOrV (f g : EF) : EF := fun s L => bnd (f s L) fun v L1 => match truT v with
  | some true => some (.ok v L1)
  | some false => g s L1
  | none => none
theorem ev_orV {X : Cx} {c : FC} {a b : Expr} {rest : List Expr} {f g : EF} {pos : Pos} (ha : EV X c a f) (hb : EV X c (.BoolOp .Or (b :: rest) pos) g) : EV X c (.BoolOp .Or (a :: b :: rest) pos) (eOrV f g) := by
  refine pe_imp (pe_orT ha hb) fun σ H Q h => ?_
  refine tOf.first (R := RE _) (R' := RE _) (k := fun s v L1 => match truT v with
    | some true => some (.ok v L1)
    | some false => g s L1
    | none => none) h fun ρ L s v L1 ρ1 H1 u r e1 q1 o => ?_
  cases v with
  | tup xs =>
    obtain ⟨p, vs, rfl, h1, h2⟩ := q1
    have e : xs.isEmpty = vs.isEmpty := by
      have := h2.length
      cases xs <;> cases vs <;> simp at this ⊢
    refine ⟨!vs.isEmpty, .inr (.inl ⟨vs, KTup.sq (G := gx X c.kt) h1, rfl⟩), ?_⟩
    change Ou _ _ _ _ _ _ _ (match some (!xs.isEmpty) with
      | some true => some (.ok (.tup xs) L1)
      | some false => g s L1
      | none => none) at o
    rw [e] at o
    cases hv : vs.isEmpty with
    | true =>
      rw [hv] at o
      exact ⟨ρ1, L1, s, r, o⟩
    | false =>
      rw [hv] at o
      exact o ρ1 H1 _ Ext.refl r.st ⟨p, vs, rfl, h1, h2⟩
  | _ => exact o.elim
section
variable {f g : EF} {s : Slots} {L : Store}
@[simp] theorem eOrV_at : eOrV f g s L = bnd (f s L) fun v L1 => match truT v with
  | some true => some (.ok v L1)
  | some false => g s L1
  | none => none := rfl
end
end Fx


set_option Elab.async false
set_option linter.all false
set_option maxRecDepth 100000
set_option maxHeartbeats 1000000
namespace G
open PySem L2 Fx
section
variable {α β : Type}
theorem putA_newG {ms : List (Str × α)} {k : Str} {a : α} (h : k ∉ ms.map (·.1)) : putA ms k a = ms ++ [(k, a)] := by
  unfold putA
  have : ¬ (ms.any fun r => decide (r.1 = k)) = true := fun q => by
    obtain ⟨r, hr, e⟩ := List.any_eq_true.mp q
    exact h (List.mem_map.mpr ⟨r, hr, by simpa using e⟩)
  rw [if_neg this]
theorem dloop_new {t : TGF} {gk gv : EF} {s : Slots} {L : Store} {f : α → PV} (x : β → PV) (r : β → Str × α) : ∀ (xs : List β) (acc : List (Str × α)), (∀ y ∈ xs, ∃ s1, t (x y) s = some s1 ∧ gk s1 L = some (.ok (.str (r y).1) L) ∧ gv s1 L = some (.ok (f (r y).2) L)) →
    (acc.map (·.1) ++ xs.map fun y => (r y).1).Nodup → acc.length + xs.length ≤ sizeLine → dLoop t pYes gk gv s (xs.map x) (kvP f acc) L = some (.ok (.dk (kvP f (acc ++ xs.map r))) L)
  | [], acc, _, _, _ => by simp [dLoop]
  | y :: xs, acc, h, hn, hl => by
    obtain ⟨s1, h1, h2, h3⟩ := h y (by simp)
    rw [List.length_cons] at hl
    rw [List.map_cons] at hn
    have hk : (r y).1 ∉ acc.map (·.1) := fun q => (List.nodup_append.mp hn).2.2 _ q _ (by simp) rfl
    have ih := dloop_new (f := f) x r xs (acc ++ [r y]) (fun z hz => h z (by simp [hz])) (by simpa using hn) (by simp; omega)
    rw [List.map_cons]
    unfold dLoop
    rw [h1]
    show bndN (gk s1 L) _ = _
    rw [h2]
    show bndN (gv s1 L) _ = _
    rw [h3]
    show (if (kvP f acc).length < sizeLine then dLoop t pYes gk gv s (xs.map x) (put (kvP f acc) (.inr (r y).1) (f (r y).2)) L else none) = _
    rw [if_pos (by unfold kvP; rw [List.length_map]; omega), kvP_put, putA_newG hk, ih]
    simp
theorem all_put (q : Str × α → Bool) (ms : List (Str × α)) (k : Str) (a : α) : (putA ms k a).all q = true ↔ q (k, a) = true ∧ ∀ r ∈ ms, r.1 ≠ k → q r = true := by
  unfold putA
  split
  · rename_i h
    obtain ⟨r0, hr0, e0⟩ := List.any_eq_true.mp h
    have e0 : r0.1 = k := by simpa using e0
    rw [List.all_eq_true]
    constructor
    · intro h
      refine ⟨?_, fun r hr hk => ?_⟩
      · have := h (r0.1, a) (List.mem_map.mpr ⟨r0, hr0, by rw [if_pos e0]⟩)
        rwa [e0] at this
      · exact h r (List.mem_map.mpr ⟨r, hr, by rw [if_neg hk]⟩)
    · rintro ⟨h1, h2⟩ x hx
      obtain ⟨r, hr, rfl⟩ := List.mem_map.mp hx
      split
      · rename_i e
        rw [e]; exact h1
      · rename_i e
        exact h2 r hr e
  · rename_i h
    rw [List.all_append, Bool.and_eq_true, List.all_eq_true]
    constructor
    · rintro ⟨h1, h2⟩
      exact ⟨by simpa using h2, fun r hr _ => h1 r hr⟩
    · rintro ⟨h1, h2⟩
      refine ⟨fun r hr => h2 r hr fun e => h (List.any_eq_true.mpr ⟨r, hr, by simpa using e⟩), by simpa using h1⟩
theorem fold_all (key : β → Str) (v : β → α) (q : Str × α → Bool) : ∀ (gs : List β) (acc : List (Str × α)), (gs.map key).Nodup →
    ((gs.foldl (fun acc r => putA acc (key r) (v r)) acc).all q = true ↔ (∀ g ∈ gs, q (key g, v g) = true) ∧ ∀ r ∈ acc, r.1 ∉ gs.map key → q r = true)
  | [], acc, _ => by simp
  | g :: gs, acc, hn => by
    have hn' := List.nodup_cons.mp (show (key g :: gs.map key).Nodup from hn)
    rw [List.foldl_cons, fold_all key v q gs _ hn'.2]
    have h1 : (∀ r ∈ putA acc (key g) (v g), r.1 ∉ gs.map key → q r = true) ↔ (putA acc (key g) (v g)).all (fun r => decide (r.1 ∈ gs.map key) || q r) = true := by
      rw [List.all_eq_true]
      constructor
      · intro h r hr
        by_cases c : r.1 ∈ gs.map key
        · simp [c]
        · simp [h r hr c]
      · intro h r hr c
        have := h r hr
        rw [Bool.or_eq_true, decide_eq_true_eq] at this
        exact this.resolve_left c
    rw [h1, all_put]
    simp only [Bool.or_eq_true, decide_eq_true_eq, List.mem_cons, List.map_cons, not_or]
    constructor
    · rintro ⟨h1, h2, h3⟩
      refine ⟨fun x hx => ?_, fun r hr hk => ?_⟩
      · rcases hx with rfl | hx
        · exact h2.resolve_left hn'.1
        · exact h1 x hx
      · exact (h3 r hr hk.1).resolve_left hk.2
    · rintro ⟨h1, h2⟩
      refine ⟨fun x hx => h1 x (.inr hx), .inr (h1 g (.inl rfl)), fun r hr hk => ?_⟩
      by_cases c : r.1 ∈ gs.map key
      · exact .inl c
      · exact .inr (h2 r hr ⟨hk, c⟩)
theorem setC_kv {kt : Bool} {f : α → PV} {ms : List (Str × α)} {k : Str} {a : α} (h : ms.length < 100000) : setC kt (.dk (kvP f ms)) (.str k) (f a) = some (.dk (kvP f (putA ms k a))) := by
  show (if (kvP f ms).length < sizeLine then (keyOf (.str k)).map fun k => Cell.dk (Fx.put (kvP f ms) k (f a)) else none) = _
  have hz : (kvP f ms).length < sizeLine := Nat.lt_of_lt_of_le (by unfold kvP; rw [List.length_map]; omega) (by decide : 100000 ≤ sizeLine)
  rw [if_pos hz]
  show some (Cell.dk (Fx.put (kvP f ms) (.inr k) (f a))) = _
  rw [kvP_put]
def dkP (f : α → PV) (ms : List (Str × α)) : PV := .dk (ms.map fun r => .inr r.1) (ms.map fun r => f r.2)
theorem dkP_zip {f : α → PV} (ms : List (Str × α)) : (ms.map fun r => (.inr r.1 : Key)).zip (ms.map fun r => f r.2) = kvP f ms := by
  unfold kvP
  induction ms with
  | nil => rfl
  | cons r ms ih => simp [ih]
theorem dkP_items {f : α → PV} (ms : List (Str × α)) : hItems (dkP f ms) = some (ms.map fun r => .tup [.str r.1, f r.2]) := by
  show some (((ms.map fun r => (.inr r.1 : Key)).zip (ms.map fun r => f r.2)).map fun p => PV.tup [keyP p.1, p.2]) = _
  rw [dkP_zip]
  unfold kvP
  rw [List.map_map]
  rfl
theorem dkP_keys {f : α → PV} (ms : List (Str × α)) : hKeys (dkP f ms) = some (ms.map fun r => .str r.1) := by
  show some ((ms.map fun r => (.inr r.1 : Key)).map keyP) = _
  rw [List.map_map]
  rfl
theorem kv_dkP {f : α → PV} (ms : List (Str × α)) : PV.dk ((kvP f ms).map (·.1)) ((kvP f ms).map (·.2)) = dkP f ms := by
  unfold kvP dkP
  rw [List.map_map, List.map_map]
  rfl
theorem dkP_get {kt : Bool} {f : α → PV} {ms : List (Str × α)} {k : Str} {L : Store} : isDv (view L (.v (dkP f ms))) = true ∧ view L (.v (dkP f ms)) = some (.dk (kvP f ms)) ∧ dLook' kt (.dk (kvP f ms)) (.str k) = some (look (kvP f ms) (.inr k)) := by
  have e : view L (.v (dkP f ms)) = some (.dk (kvP f ms)) := by
    show some (Vw.dk ((ms.map fun r => (.inr r.1 : Key)).zip (ms.map fun r => f r.2))) = _
    rw [dkP_zip]
  exact ⟨by rw [e]; rfl, e, by cases kt <;> rfl⟩
end
end G

set_option Elab.async false
set_option linter.all false
set_option maxRecDepth 100000
set_option maxHeartbeats 1000000
namespace G
open PySem L2 Fx
theorem fLoop_chkM {α : Type} {t : TGF} {b : SF} {L : Store} {v : PV} (f : α → PV) (q : α → Bool) (S : Slots → Prop) : ∀ (xs : List α) (s : Slots), S s → (∀ x ∈ xs, ∀ s, S s → ∃ s1 s2, t (f x) s = some s1 ∧ S s2 ∧ b s1 L = some (.ok (if q x = true then .nx s2 else .rt v) L)) →
    ∃ s', S s' ∧ fLoop t b (xs.map f) s L = some (.ok (if xs.all q = true then .nx s' else .rt v) L)
  | [], s, h, _ => ⟨s, h, rfl⟩
  | x :: r, s, h, hb => by
    obtain ⟨s1, s2, h1, h2, h3⟩ := hb x (by simp) s h
    rw [List.map_cons]
    unfold fLoop
    rw [h1]
    dsimp only
    rw [h3]
    cases hq : q x with
    | false =>
      rw [if_neg Bool.false_ne_true]
      exact ⟨s2, h2, by simp [hq]⟩
    | true =>
      obtain ⟨s', e1, e2⟩ := fLoop_chkM f q S r s2 h2 fun y hy => hb y (by simp [hy])
      rw [if_pos rfl]
      refine ⟨s', e1, ?_⟩
      simp only [List.all_cons, hq, Bool.true_and]
      exact e2
end G

set_option Elab.async false
set_option linter.all false
set_option maxRecDepth 100000
set_option maxHeartbeats 4000000
namespace G
open PySem L2 Fx
abbrev KT : Bool := true
def top (i : Nat) : Stmt := PySem.Challenge.pw_pulpreel_k05_whole_between_two_mixtures.main.body.getD i (.Pass ⟨0, 0, 0, 0⟩)
abbrev s_divisor : Stmt := top 2
abbrev s_fraction : Stmt := top 3
abbrev s_plus : Stmt := top 4
abbrev s_minus : Stmt := top 5
abbrev s_by : Stmt := top 6
abbrev s_is_less : Stmt := top 7
abbrev s_amount_of : Stmt := top 8
abbrev s_shares : Stmt := top 11
abbrev s_bounds : Stmt := top 12
abbrev s_between : Stmt := top 13
abbrev s__law_draw : Stmt := top 15
abbrev s__law_like : Stmt := top 16
abbrev s__law_common : Stmt := top 17
abbrev s__law_frac : Stmt := top 18
abbrev s__law_sum : Stmt := top 19
abbrev s__law_part : Stmt := top 20
abbrev s__law_below : Stmt := top 21
abbrev s__law_total : Stmt := top 22
abbrev s__law_together : Stmt := top 23
abbrev s__law_share_of : Stmt := top 24
abbrev s__law_amount : Stmt := top 25
abbrev s__law_mixture : Stmt := top 26
abbrev s__law_grade : Stmt := top 27
abbrev s__law_lets : Stmt := top 28
abbrev s__law_mixed : Stmt := top 29
abbrev s__law_turned : Stmt := top 30
abbrev s__law_ends_right : Stmt := top 31
abbrev s_law : Stmt := top 32
structure Tx (K : PySem.W.Frag) (mg : Str → Option Value) where
  z_abs : mg "abs" = none
  z_bool : mg "bool" = none
  z_dict : mg "dict" = none
  z_isinstance : mg "isinstance" = none
  z_len : mg "len" = none
  z_list : mg "list" = none
  z_max : mg "max" = none
  z_range : mg "range" = none
  z_sorted : mg "sorted" = none
  z_tuple : mg "tuple" = none
  c_NOUGHT : ∃ p, mg "NOUGHT" = some (.ref p) ∧ KTup K p ([(0 : Int), (1 : Int)].map V.int)
  c_ONE : ∃ p, mg "ONE" = some (.ref p) ∧ KTup K p ([(1 : Int), (1 : Int)].map V.int)
  a_divisor : Addr
  d_divisor : FuncData
  F_divisor : Fun K "divisor" "divisor" s_divisor a_divisor d_divisor
  m_divisor : mg "divisor" = some (.ref a_divisor)
  k_divisor : PySem.W.keepIn K (.ref a_divisor) = true
  b_divisor : Binds K d_divisor ["one", "other"] []
  a_fraction : Addr
  d_fraction : FuncData
  F_fraction : Fun K "fraction" "fraction" s_fraction a_fraction d_fraction
  m_fraction : mg "fraction" = some (.ref a_fraction)
  k_fraction : PySem.W.keepIn K (.ref a_fraction) = true
  b_fraction : Binds K d_fraction ["top", "bottom"] []
  a_plus : Addr
  d_plus : FuncData
  F_plus : Fun K "plus" "plus" s_plus a_plus d_plus
  m_plus : mg "plus" = some (.ref a_plus)
  k_plus : PySem.W.keepIn K (.ref a_plus) = true
  b_plus : Binds K d_plus ["one", "other"] []
  a_minus : Addr
  d_minus : FuncData
  F_minus : Fun K "minus" "minus" s_minus a_minus d_minus
  m_minus : mg "minus" = some (.ref a_minus)
  k_minus : PySem.W.keepIn K (.ref a_minus) = true
  b_minus : Binds K d_minus ["one", "other"] []
  a_by : Addr
  d_by : FuncData
  F_by : Fun K "by" "by" s_by a_by d_by
  m_by : mg "by" = some (.ref a_by)
  k_by : PySem.W.keepIn K (.ref a_by) = true
  b_by : Binds K d_by ["one", "other"] []
  a_is_less : Addr
  d_is_less : FuncData
  F_is_less : Fun K "is_less" "is_less" s_is_less a_is_less d_is_less
  m_is_less : mg "is_less" = some (.ref a_is_less)
  k_is_less : PySem.W.keepIn K (.ref a_is_less) = true
  b_is_less : Binds K d_is_less ["one", "other"] []
  a_amount_of : Addr
  d_amount_of : FuncData
  F_amount_of : Fun K "amount_of" "amount_of" s_amount_of a_amount_of d_amount_of
  m_amount_of : mg "amount_of" = some (.ref a_amount_of)
  k_amount_of : PySem.W.keepIn K (.ref a_amount_of) = true
  b_amount_of : Binds K d_amount_of ["mixture"] []
  a_shares : Addr
  d_shares : FuncData
  F_shares : Fun K "shares" "shares" s_shares a_shares d_shares
  m_shares : mg "shares" = some (.ref a_shares)
  k_shares : PySem.W.keepIn K (.ref a_shares) = true
  b_shares : Binds K d_shares ["mixture"] []
  a_bounds : Addr
  d_bounds : FuncData
  F_bounds : Fun K "bounds" "bounds" s_bounds a_bounds d_bounds
  m_bounds : mg "bounds" = some (.ref a_bounds)
  k_bounds : PySem.W.keepIn K (.ref a_bounds) = true
  b_bounds : Binds K d_bounds ["grade", "pulps"] []
  a_between : Addr
  d_between : FuncData
  F_between : Fun K "between" "between" s_between a_between d_between
  m_between : mg "between" = some (.ref a_between)
  k_between : PySem.W.keepIn K (.ref a_between) = true
  b_between : Binds K d_between ["grade", "mixture", "other"] []
  a__law_draw : Addr
  d__law_draw : FuncData
  F__law_draw : Fun K "_law_draw" "_law_draw" s__law_draw a__law_draw d__law_draw
  m__law_draw : mg "_law_draw" = some (.ref a__law_draw)
  k__law_draw : PySem.W.keepIn K (.ref a__law_draw) = true
  b__law_draw : Binds K d__law_draw ["tape", "many"] []
  a__law_like : Addr
  d__law_like : FuncData
  F__law_like : Fun K "_law_like" "_law_like" s__law_like a__law_like d__law_like
  m__law_like : mg "_law_like" = some (.ref a__law_like)
  k__law_like : PySem.W.keepIn K (.ref a__law_like) = true
  b__law_like : Binds K d__law_like ["one", "two"] []
  a__law_common : Addr
  d__law_common : FuncData
  F__law_common : Fun K "_law_common" "_law_common" s__law_common a__law_common d__law_common
  m__law_common : mg "_law_common" = some (.ref a__law_common)
  k__law_common : PySem.W.keepIn K (.ref a__law_common) = true
  b__law_common : Binds K d__law_common ["one", "other"] []
  a__law_frac : Addr
  d__law_frac : FuncData
  F__law_frac : Fun K "_law_frac" "_law_frac" s__law_frac a__law_frac d__law_frac
  m__law_frac : mg "_law_frac" = some (.ref a__law_frac)
  k__law_frac : PySem.W.keepIn K (.ref a__law_frac) = true
  b__law_frac : Binds K d__law_frac ["top", "bottom"] []
  a__law_sum : Addr
  d__law_sum : FuncData
  F__law_sum : Fun K "_law_sum" "_law_sum" s__law_sum a__law_sum d__law_sum
  m__law_sum : mg "_law_sum" = some (.ref a__law_sum)
  k__law_sum : PySem.W.keepIn K (.ref a__law_sum) = true
  b__law_sum : Binds K d__law_sum ["one", "other"] []
  a__law_part : Addr
  d__law_part : FuncData
  F__law_part : Fun K "_law_part" "_law_part" s__law_part a__law_part d__law_part
  m__law_part : mg "_law_part" = some (.ref a__law_part)
  k__law_part : PySem.W.keepIn K (.ref a__law_part) = true
  b__law_part : Binds K d__law_part ["amount", "share"] []
  a__law_below : Addr
  d__law_below : FuncData
  F__law_below : Fun K "_law_below" "_law_below" s__law_below a__law_below d__law_below
  m__law_below : mg "_law_below" = some (.ref a__law_below)
  k__law_below : PySem.W.keepIn K (.ref a__law_below) = true
  b__law_below : Binds K d__law_below ["one", "other"] []
  a__law_total : Addr
  d__law_total : FuncData
  F__law_total : Fun K "_law_total" "_law_total" s__law_total a__law_total d__law_total
  m__law_total : mg "_law_total" = some (.ref a__law_total)
  k__law_total : PySem.W.keepIn K (.ref a__law_total) = true
  b__law_total : Binds K d__law_total ["mixture"] []
  a__law_together : Addr
  d__law_together : FuncData
  F__law_together : Fun K "_law_together" "_law_together" s__law_together a__law_together d__law_together
  m__law_together : mg "_law_together" = some (.ref a__law_together)
  k__law_together : PySem.W.keepIn K (.ref a__law_together) = true
  b__law_together : Binds K d__law_together ["one", "other"] []
  a__law_share_of : Addr
  d__law_share_of : FuncData
  F__law_share_of : Fun K "_law_share_of" "_law_share_of" s__law_share_of a__law_share_of d__law_share_of
  m__law_share_of : mg "_law_share_of" = some (.ref a__law_share_of)
  k__law_share_of : PySem.W.keepIn K (.ref a__law_share_of) = true
  b__law_share_of : Binds K d__law_share_of ["mixture", "share"] []
  a__law_amount : Addr
  d__law_amount : FuncData
  F__law_amount : Fun K "_law_amount" "_law_amount" s__law_amount a__law_amount d__law_amount
  m__law_amount : mg "_law_amount" = some (.ref a__law_amount)
  k__law_amount : PySem.W.keepIn K (.ref a__law_amount) = true
  b__law_amount : Binds K d__law_amount ["tape"] []
  a__law_mixture : Addr
  d__law_mixture : FuncData
  F__law_mixture : Fun K "_law_mixture" "_law_mixture" s__law_mixture a__law_mixture d__law_mixture
  m__law_mixture : mg "_law_mixture" = some (.ref a__law_mixture)
  k__law_mixture : PySem.W.keepIn K (.ref a__law_mixture) = true
  b__law_mixture : Binds K d__law_mixture ["tape", "most"] []
  a__law_grade : Addr
  d__law_grade : FuncData
  F__law_grade : Fun K "_law_grade" "_law_grade" s__law_grade a__law_grade d__law_grade
  m__law_grade : mg "_law_grade" = some (.ref a__law_grade)
  k__law_grade : PySem.W.keepIn K (.ref a__law_grade) = true
  b__law_grade : Binds K d__law_grade ["tape"] []
  a__law_lets : Addr
  d__law_lets : FuncData
  F__law_lets : Fun K "_law_lets" "_law_lets" s__law_lets a__law_lets d__law_lets
  m__law_lets : mg "_law_lets" = some (.ref a__law_lets)
  k__law_lets : PySem.W.keepIn K (.ref a__law_lets) = true
  b__law_lets : Binds K d__law_lets ["grade", "mixture"] []
  a__law_mixed : Addr
  d__law_mixed : FuncData
  F__law_mixed : Fun K "_law_mixed" "_law_mixed" s__law_mixed a__law_mixed d__law_mixed
  m__law_mixed : mg "_law_mixed" = some (.ref a__law_mixed)
  k__law_mixed : PySem.W.keepIn K (.ref a__law_mixed) = true
  b__law_mixed : Binds K d__law_mixed ["one", "other", "share"] []
  a__law_turned : Addr
  d__law_turned : FuncData
  F__law_turned : Fun K "_law_turned" "_law_turned" s__law_turned a__law_turned d__law_turned
  m__law_turned : mg "_law_turned" = some (.ref a__law_turned)
  k__law_turned : PySem.W.keepIn K (.ref a__law_turned) = true
  b__law_turned : Binds K d__law_turned ["share"] []
  a__law_ends_right : Addr
  d__law_ends_right : FuncData
  F__law_ends_right : Fun K "_law_ends_right" "_law_ends_right" s__law_ends_right a__law_ends_right d__law_ends_right
  m__law_ends_right : mg "_law_ends_right" = some (.ref a__law_ends_right)
  k__law_ends_right : PySem.W.keepIn K (.ref a__law_ends_right) = true
  b__law_ends_right : Binds K d__law_ends_right [] []
  a_law : Addr
  d_law : FuncData
  F_law : Fun K "law" "law" s_law a_law d_law
  m_law : mg "law" = some (.ref a_law)
  k_law : PySem.W.keepIn K (.ref a_law) = true
  b_law : Binds K d_law ["script"] []
/-! ### divisor -/
def b_divisor : SF :=
  (sSeq (wLoop (bB (eOp hNe (eVar 1) (eC (.int 0)))) (sPar 0 1 (eVar 1) (eOp hMod (eVar 0) (eVar 1))) fuelN)
    (sRet (eVar 0)))
def g_divisor : DS := runDef0 2 b_divisor
theorem safe_divisor : Safe g_divisor := safe_run0
theorem sc_divisor : FnScope ["one", "other"] ["one", "other"] (defScope s_divisor) := ⟨rfl, rfl, rfl, by decide +kernel, rfl, by decide +kernel, by decide +kernel⟩
theorem ok_divisor {P : Program} {w : World} {K : PySem.W.Frag} {mg : Str → Option Value} {base : Heap} (T : Tx K mg) : FnOk P w K mg base CX0 1 T.a_divisor T.d_divisor ["one", "other"] (spG ⟨K, mg, true⟩ 2 g_divisor) :=
  T.F_divisor.ok (k := 0) sc_divisor (spG_len (ps := ["one", "other"])) fun cdv A outer s H vs Q E hr h => def_run (kt := true) (N := ["one", "other"]) h fun c hc =>
  (ess_cons (es_while fuelN .never (tv_ne (hu64 hr) (vr 1) ev_int) (ess_one (es_par (i := 0) (j := 1) (by rfl) sc_divisor.nd (by rfl) (by rfl) (by decide) (by rfl) (by rfl) (vr 1) (ev_mod (vr 0) (vr 1)) (by rfl))))
    (ess_one (es_ret (vr 0))))
/-! ### fraction -/
def b_fraction : SF :=
  (sSeq (sSet 2 (eCall 2 g_divisor (aCons (eCall1 hAbs (hE (eVar 0))) (aCons (eVar 1) aNil)) []))
    (sRet (eTup (aCons (eOp hDiv (eVar 0) (eVar 2)) (aCons (eOp hDiv (eVar 1) (eVar 2)) aNil)))))
def g_fraction : DS := runDef0 3 b_fraction
theorem safe_fraction : Safe g_fraction := safe_run0
theorem sc_fraction : FnScope ["top", "bottom", "share"] ["top", "bottom"] (defScope s_fraction) := ⟨rfl, rfl, rfl, by decide +kernel, rfl, by decide +kernel, by decide +kernel⟩
theorem ok_fraction {P : Program} {w : World} {K : PySem.W.Frag} {mg : Str → Option Value} {base : Heap} (T : Tx K mg) : FnOk P w K mg base CX0 2 T.a_fraction T.d_fraction ["top", "bottom"] (spG ⟨K, mg, true⟩ 2 g_fraction) :=
  T.F_fraction.ok (k := 1) sc_fraction (spG_len (ps := ["top", "bottom"])) fun cdv A outer s H vs Q E hr h => def_run (kt := true) (N := ["top", "bottom", "share"]) h fun c hc =>
  (ess_cons (es_set (i := 2) sc_fraction.nd (by rfl) (by first | exact Or.inl rfl | exact Or.inr rfl) (ev_cl hc (ok_divisor T) safe_divisor (hr.mono (by decide)) (by rfl) T.m_divisor T.k_divisor T.b_divisor (av_cons (ev_abs (by rfl) T.z_abs (vh 0)) (av_cons (vr 1) av_nil))))
    (ess_one (es_ret (ev_tup (av_cons (ev_fdiv (vr 0) (vr 2)) (av_cons (ev_fdiv (vr 1) (vr 2)) av_nil))))))
/-! ### plus -/
def b_plus : SF :=
  (sRet (eCall 2 g_fraction (aCons (eOp hAdd (eOp hMulI (eOpH (hIx true) (hE (eVar 0)) (eC (.int 0))) (eOpH (hIx true) (hE (eVar 1)) (eC (.int 1)))) (eOp hMulI (eOpH (hIx true) (hE (eVar 1)) (eC (.int 0))) (eOpH (hIx true) (hE (eVar 0)) (eC (.int 1))))) (aCons (eOp hMulI (eOpH (hIx true) (hE (eVar 0)) (eC (.int 1))) (eOpH (hIx true) (hE (eVar 1)) (eC (.int 1)))) aNil)) []))
def g_plus : DS := runDef0 2 b_plus
theorem safe_plus : Safe g_plus := safe_run0
theorem sc_plus : FnScope ["one", "other"] ["one", "other"] (defScope s_plus) := ⟨rfl, rfl, rfl, by decide +kernel, rfl, by decide +kernel, by decide +kernel⟩
theorem ok_plus {P : Program} {w : World} {K : PySem.W.Frag} {mg : Str → Option Value} {base : Heap} (T : Tx K mg) : FnOk P w K mg base CX0 3 T.a_plus T.d_plus ["one", "other"] (spG ⟨K, mg, true⟩ 2 g_plus) :=
  T.F_plus.ok (k := 2) sc_plus (spG_len (ps := ["one", "other"])) fun cdv A outer s H vs Q E hr h => def_run (kt := true) (N := ["one", "other"]) h fun c hc =>
  (ess_one (es_ret (ev_cl hc (ok_fraction T) safe_fraction (hr.mono (by decide)) (by rfl) T.m_fraction T.k_fraction T.b_fraction (av_cons (ev_add (ev_mul (ev_ix (hu1 hr) hc (vh 0) ev_int) (ev_ix (hu1 hr) hc (vh 1) ev_int)) (ev_mul (ev_ix (hu1 hr) hc (vh 1) ev_int) (ev_ix (hu1 hr) hc (vh 0) ev_int))) (av_cons (ev_mul (ev_ix (hu1 hr) hc (vh 0) ev_int) (ev_ix (hu1 hr) hc (vh 1) ev_int)) av_nil)))))
/-! ### minus -/
def b_minus : SF :=
  (sRet (eCall 2 g_fraction (aCons (eOp hSub (eOp hMulI (eOpH (hIx true) (hE (eVar 0)) (eC (.int 0))) (eOpH (hIx true) (hE (eVar 1)) (eC (.int 1)))) (eOp hMulI (eOpH (hIx true) (hE (eVar 1)) (eC (.int 0))) (eOpH (hIx true) (hE (eVar 0)) (eC (.int 1))))) (aCons (eOp hMulI (eOpH (hIx true) (hE (eVar 0)) (eC (.int 1))) (eOpH (hIx true) (hE (eVar 1)) (eC (.int 1)))) aNil)) []))
def g_minus : DS := runDef0 2 b_minus
theorem safe_minus : Safe g_minus := safe_run0
theorem sc_minus : FnScope ["one", "other"] ["one", "other"] (defScope s_minus) := ⟨rfl, rfl, rfl, by decide +kernel, rfl, by decide +kernel, by decide +kernel⟩
theorem ok_minus {P : Program} {w : World} {K : PySem.W.Frag} {mg : Str → Option Value} {base : Heap} (T : Tx K mg) : FnOk P w K mg base CX0 3 T.a_minus T.d_minus ["one", "other"] (spG ⟨K, mg, true⟩ 2 g_minus) :=
  T.F_minus.ok (k := 2) sc_minus (spG_len (ps := ["one", "other"])) fun cdv A outer s H vs Q E hr h => def_run (kt := true) (N := ["one", "other"]) h fun c hc =>
  (ess_one (es_ret (ev_cl hc (ok_fraction T) safe_fraction (hr.mono (by decide)) (by rfl) T.m_fraction T.k_fraction T.b_fraction (av_cons (ev_sub (ev_mul (ev_ix (hu1 hr) hc (vh 0) ev_int) (ev_ix (hu1 hr) hc (vh 1) ev_int)) (ev_mul (ev_ix (hu1 hr) hc (vh 1) ev_int) (ev_ix (hu1 hr) hc (vh 0) ev_int))) (av_cons (ev_mul (ev_ix (hu1 hr) hc (vh 0) ev_int) (ev_ix (hu1 hr) hc (vh 1) ev_int)) av_nil)))))
/-! ### by -/
def b_by : SF :=
  (sSeq (sPar 2 3 (eOp hMulI (eOpH (hIx true) (hE (eVar 0)) (eC (.int 0))) (eOpH (hIx true) (hE (eVar 1)) (eC (.int 1)))) (eOp hMulI (eOpH (hIx true) (hE (eVar 0)) (eC (.int 1))) (eOpH (hIx true) (hE (eVar 1)) (eC (.int 0)))))
    (sRet (eIf (bB (eOp hGt (eVar 3) (eC (.int 0)))) (eCall 2 g_fraction (aCons (eVar 2) (aCons (eVar 3) aNil)) []) (eCall 2 g_fraction (aCons (eNeg (eVar 2)) (aCons (eNeg (eVar 3)) aNil)) []))))
def g_by : DS := runDef0 4 b_by
theorem safe_by : Safe g_by := safe_run0
theorem sc_by : FnScope ["one", "other", "top", "bottom"] ["one", "other"] (defScope s_by) := ⟨rfl, rfl, rfl, by decide +kernel, rfl, by decide +kernel, by decide +kernel⟩
theorem ok_by {P : Program} {w : World} {K : PySem.W.Frag} {mg : Str → Option Value} {base : Heap} (T : Tx K mg) : FnOk P w K mg base CX0 3 T.a_by T.d_by ["one", "other"] (spG ⟨K, mg, true⟩ 2 g_by) :=
  T.F_by.ok (k := 2) sc_by (spG_len (ps := ["one", "other"])) fun cdv A outer s H vs Q E hr h => def_run (kt := true) (N := ["one", "other", "top", "bottom"]) h fun c hc =>
  (ess_cons (es_par (i := 2) (j := 3) (by rfl) sc_by.nd (by rfl) (by rfl) (by decide) (by rfl) (by rfl) (ev_mul (ev_ix (hu1 hr) hc (vh 0) ev_int) (ev_ix (hu1 hr) hc (vh 1) ev_int)) (ev_mul (ev_ix (hu1 hr) hc (vh 0) ev_int) (ev_ix (hu1 hr) hc (vh 1) ev_int)) (by rfl))
    (ess_one (es_ret (ev_if (tv_gt (vr 3) ev_int) (ev_cl hc (ok_fraction T) safe_fraction (hr.mono (by decide)) (by rfl) T.m_fraction T.k_fraction T.b_fraction (av_cons (vr 2) (av_cons (vr 3) av_nil))) (ev_cl hc (ok_fraction T) safe_fraction (hr.mono (by decide)) (by rfl) T.m_fraction T.k_fraction T.b_fraction (av_cons (ev_neg (vr 2)) (av_cons (ev_neg (vr 3)) av_nil)))))))
/-! ### is_less -/
def b_is_less : SF :=
  (sRet (eOp hLt (eOp hMulI (eOpH (hIx true) (hE (eVar 0)) (eC (.int 0))) (eOpH (hIx true) (hE (eVar 1)) (eC (.int 1)))) (eOp hMulI (eOpH (hIx true) (hE (eVar 1)) (eC (.int 0))) (eOpH (hIx true) (hE (eVar 0)) (eC (.int 1))))))
def g_is_less : DS := runDef0 2 b_is_less
theorem safe_is_less : Safe g_is_less := safe_run0
theorem sc_is_less : FnScope ["one", "other"] ["one", "other"] (defScope s_is_less) := ⟨rfl, rfl, rfl, by decide +kernel, rfl, by decide +kernel, by decide +kernel⟩
theorem ok_is_less {P : Program} {w : World} {K : PySem.W.Frag} {mg : Str → Option Value} {base : Heap} (T : Tx K mg) : FnOk P w K mg base CX0 1 T.a_is_less T.d_is_less ["one", "other"] (spG ⟨K, mg, true⟩ 2 g_is_less) :=
  T.F_is_less.ok (k := 0) sc_is_less (spG_len (ps := ["one", "other"])) fun cdv A outer s H vs Q E hr h => def_run (kt := true) (N := ["one", "other"]) h fun c hc =>
  (ess_one (es_ret (ev_lt (hu0 hr) (ev_mul (ev_ix (hu1 hr) hc (vh 0) ev_int) (ev_ix (hu1 hr) hc (vh 1) ev_int)) (ev_mul (ev_ix (hu1 hr) hc (vh 1) ev_int) (ev_ix (hu1 hr) hc (vh 0) ev_int)))))
/-! ### amount_of -/
def b_amount_of : SF :=
  (sSeq (sSet 1 (eC (.tup ([0, 1].map PV.int))))
    (sSeq (sFor (iE (eVar 0)) (gTp (gCns (gNm 2) (gCns (gNm 3) gNls))) (sSet 1 (eCall 2 g_plus (aCons (eVar 1) (aCons (eVar 3) aNil)) [])))
    (sRet (eVar 1))))
def g_amount_of : DS := runDef0 4 b_amount_of
theorem safe_amount_of : Safe g_amount_of := safe_run0
theorem sc_amount_of : FnScope ["mixture", "found", "part", "amount"] ["mixture"] (defScope s_amount_of) := ⟨rfl, rfl, rfl, by decide +kernel, rfl, by decide +kernel, by decide +kernel⟩
theorem ok_amount_of {P : Program} {w : World} {K : PySem.W.Frag} {mg : Str → Option Value} {base : Heap} (T : Tx K mg) : FnOk P w K mg base CX0 4 T.a_amount_of T.d_amount_of ["mixture"] (spG ⟨K, mg, true⟩ 1 g_amount_of) :=
  T.F_amount_of.ok (k := 3) sc_amount_of (spG_len (ps := ["mixture"])) fun cdv A outer s H vs Q E hr h => def_run (kt := true) (N := ["mixture", "found", "part", "amount"]) h fun c hc =>
  (ess_cons (es_set (i := 1) sc_amount_of.nd (by rfl) (by first | exact Or.inl rfl | exact Or.inr rfl) (ev_glT (by rfl) T.c_NOUGHT.choose_spec.1 T.c_NOUGHT.choose_spec.2 hc))
    (ess_cons (es_for .never (by rfl) (iv_e (vr 0)) (gv_tp (by rfl) (gvs_cons (gv_nm (i := 2) sc_amount_of.nd (by rfl) (by first | exact Or.inl rfl | exact Or.inr rfl)) (gvs_cons (gv_nm (i := 3) sc_amount_of.nd (by rfl) (by first | exact Or.inl rfl | exact Or.inr rfl)) gvs_nil)) (by rfl) (by rfl) (gl_cons (gl_cons gl_nil))) (ess_one (es_set (i := 1) sc_amount_of.nd (by rfl) (by first | exact Or.inl rfl | exact Or.inr rfl) (ev_cl hc (ok_plus T) safe_plus (hr.mono (by decide)) (by rfl) T.m_plus T.k_plus T.b_plus (av_cons (vr 1) (av_cons (vr 3) av_nil))))))
    (ess_one (es_ret (vr 1)))))
/-! ### shares -/
def b_shares : SF :=
  (sSeq (sSet 1 (eCall 1 g_amount_of (aCons (eVar 0) aNil) []))
    (sRet (eFrz (nDComp (iE (eVar 0)) (gTp (gCns (gNm 2) (gCns (gNm 3) gNls))) pYes (eVar 2) (eCall 2 g_by (aCons (eVar 3) (aCons (eVar 1) aNil)) []) [2, 3]))))
def g_shares : DS := runDef0 4 b_shares
theorem safe_shares : Safe g_shares := safe_run0
theorem sc_shares : FnScope ["mixture", "whole", "pulp", "amount"] ["mixture"] (defScope s_shares) := ⟨rfl, rfl, rfl, by decide +kernel, rfl, by decide +kernel, by decide +kernel⟩
theorem ok_shares {P : Program} {w : World} {K : PySem.W.Frag} {mg : Str → Option Value} {base : Heap} (T : Tx K mg) : FnOk P w K mg base CX0 5 T.a_shares T.d_shares ["mixture"] (spG ⟨K, mg, true⟩ 1 g_shares) :=
  T.F_shares.ok (k := 4) sc_shares (spG_len (ps := ["mixture"])) fun cdv A outer s H vs Q E hr h => def_run (kt := true) (N := ["mixture", "whole", "pulp", "amount"]) h fun c hc =>
  (ess_cons (es_set (i := 1) sc_shares.nd (by rfl) (by first | exact Or.inl rfl | exact Or.inr rfl) (ev_cl hc (ok_amount_of T) safe_amount_of (hr.mono (by decide)) (by rfl) T.m_amount_of T.k_amount_of T.b_amount_of (av_cons (vr 0) av_nil)))
    (ess_one (es_ret (ev_frz (nv_dc (by rfl) sc_shares.nd (own := ([("pulp", 2), ("amount", 3)] : List (Str × Nat))) (iv_e (vr 0)) (blkOk_by (N := ["mixture", "whole", "pulp", "amount"]) (sc := defScope s_shares) (by decide +kernel)) (fun _ _ _ _ _ => (gv_tp (by rfl) (gvs_cons (gv_nm (i := 2) sc_shares.nd (by rfl) (by first | exact Or.inl rfl | exact Or.inr rfl)) (gvs_cons (gv_nm (i := 3) sc_shares.nd (by rfl) (by first | exact Or.inl rfl | exact Or.inr rfl)) gvs_nil)) (by rfl) (by rfl) (gl_cons (gl_cons gl_nil)))) (fun _ _ _ _ _ => tvs_nil) (fun _ _ _ _ _ => (vr 2)) (fun _ _ _ _ _ => (ev_cl hc (ok_by T) safe_by (hr.mono (by decide)) (by rfl) T.m_by T.k_by T.b_by (av_cons (vr 3) (av_cons (vr 1) av_nil)))))))))
/-! ### bounds -/
def b_bounds : SF :=
  (sSeq (sOwn 3 (nDComp (iE (eVar 1)) (gNm 2) pYes (eVar 2) (eTup (aCons (eC (.tup ([0, 1].map PV.int))) (aCons (eC (.tup ([0, 1].map PV.int))) aNil))) [2]))
    (sSeq (sFor (iE (eVar 0)) (gTp (gCns (gNm 2) (gCns (gNm 4) (gCns (gNm 5) gNls)))) (sPutO true 3 (eVar 2) (eTup (aCons (eCall 2 g_fraction (aCons (eVar 4) (aCons (eC (.int 100)) aNil)) []) (aCons (eCall 2 g_fraction (aCons (eVar 5) (aCons (eC (.int 100)) aNil)) []) aNil)))))
    (sFrz 3 (sRet (eVar 3)))))
def g_bounds : DS := runDef0 6 b_bounds
theorem safe_bounds : Safe g_bounds := safe_run0
theorem sc_bounds : FnScope ["grade", "pulps", "pulp", "found", "low", "high"] ["grade", "pulps"] (defScope s_bounds) := ⟨rfl, rfl, rfl, by decide +kernel, rfl, by decide +kernel, by decide +kernel⟩
theorem ok_bounds {P : Program} {w : World} {K : PySem.W.Frag} {mg : Str → Option Value} {base : Heap} (T : Tx K mg) : FnOk P w K mg base CX0 3 T.a_bounds T.d_bounds ["grade", "pulps"] (spG ⟨K, mg, true⟩ 2 g_bounds) :=
  T.F_bounds.ok (k := 2) sc_bounds (spG_len (ps := ["grade", "pulps"])) fun cdv A outer s H vs Q E hr h => def_run (kt := true) (N := ["grade", "pulps", "pulp", "found", "low", "high"]) h fun c hc =>
  (ess_cons (es_dc (i := 3) (by rfl) sc_bounds.nd (by rfl) (by rfl) (swd_true (by rfl) (by rfl) (by rfl) (by rfl)) (own := ([("pulp", 2)] : List (Str × Nat))) (iv_e (vr 1)) (blkOk_by (N := ["grade", "pulps", "pulp", "found", "low", "high"]) (sc := defScope s_bounds) (by decide +kernel)) (fun _ _ _ _ _ => (gv_nm (i := 2) sc_bounds.nd (by rfl) (by first | exact Or.inl rfl | exact Or.inr rfl))) (fun _ _ _ _ _ => tvs_nil) (fun _ _ _ _ _ => (vr 2)) (fun _ _ _ _ _ => (ev_tup (av_cons (ev_glT (by rfl) T.c_NOUGHT.choose_spec.1 T.c_NOUGHT.choose_spec.2 hc) (av_cons (ev_glT (by rfl) T.c_NOUGHT.choose_spec.1 T.c_NOUGHT.choose_spec.2 hc) av_nil)))))
    (ess_cons (es_for .never (by rfl) (iv_e (vr 0)) (gv_tp (by rfl) (gvs_cons (gv_nm (i := 2) sc_bounds.nd (by rfl) (by first | exact Or.inl rfl | exact Or.inr rfl)) (gvs_cons (gv_nm (i := 4) sc_bounds.nd (by rfl) (by first | exact Or.inl rfl | exact Or.inr rfl)) (gvs_cons (gv_nm (i := 5) sc_bounds.nd (by rfl) (by first | exact Or.inl rfl | exact Or.inr rfl)) gvs_nil))) (by rfl) (by rfl) (gl_cons (gl_cons (gl_cons gl_nil)))) (ess_one (es_putO (i := 3) (hu1 hr) hc (by rfl) (by first | exact Or.inl rfl | exact Or.inr (Or.inl rfl) | exact Or.inr (Or.inr rfl)) (vr 2) (ev_tup (av_cons (ev_cl hc (ok_fraction T) safe_fraction (hr.mono (by decide)) (by rfl) T.m_fraction T.k_fraction T.b_fraction (av_cons (vr 4) (av_cons ev_int av_nil))) (av_cons (ev_cl hc (ok_fraction T) safe_fraction (hr.mono (by decide)) (by rfl) T.m_fraction T.k_fraction T.b_fraction (av_cons (vr 5) (av_cons ev_int av_nil))) av_nil))))))
    (ess_frz 3 (ess_one (es_ret (vr 3))))))
/-! ### between -/
def b_between : SF :=
  (sSeq (sPar 3 4 (eCall 1 g_shares (aCons (eVar 1) aNil) []) (eCall 1 g_shares (aCons (eVar 2) aNil) []))
    (sSeq (sPar 5 6 (eC (.tup ([0, 1].map PV.int))) (eC (.tup ([1, 1].map PV.int))))
    (sSeq (sFor (iItm (eCall 2 g_bounds (aCons (eVar 0) (aCons (eOp hAdd (eFrz (nCall1 nList (hE (eVar 3)))) (eFrz (nCall1 nList (hE (eVar 4))))) aNil)) [])) (gTp (gCns (gNm 7) (gCns (gTp (gCns (gNm 8) (gCns (gNm 9) gNls))) gNls))) (sSeq (sSet 10 (eGet true (hE (eVar 4)) (eVar 7) (eC (.tup ([0, 1].map PV.int)))))
    (sSeq (sSet 11 (eCall 2 g_minus (aCons (eGet true (hE (eVar 3)) (eVar 7) (eC (.tup ([0, 1].map PV.int)))) (aCons (eVar 10) aNil)) []))
    (sSeq (sIf (bB (eOp hEq (eVar 11) (eC (.tup ([0, 1].map PV.int))))) (sSeq (sIf (bOr (bB (eCall 2 g_is_less (aCons (eVar 10) (aCons (eVar 8) aNil)) [])) (bB (eCall 2 g_is_less (aCons (eVar 9) (aCons (eVar 10) aNil)) []))) (sRet (eC .non)) sNx)
    sCt) sNx)
    (sSeq (sSet 12 (eFrz (nLst (aCons (eCall 2 g_by (aCons (eCall 2 g_minus (aCons (eVar 8) (aCons (eVar 10) aNil)) []) (aCons (eVar 11) aNil)) []) (aCons (eCall 2 g_by (aCons (eCall 2 g_minus (aCons (eVar 9) (aCons (eVar 10) aNil)) []) (aCons (eVar 11) aNil)) []) aNil)))))
    (sSeq (sAsg (eIf (bB (eCall 2 g_is_less (aCons (eOpH (hIx true) (hE (eVar 12)) (eC (.int 0))) (aCons (eOpH (hIx true) (hE (eVar 12)) (eC (.int 1))) aNil)) [])) (eVar 12) (eFrz (nCall1 nRev (hE (eVar 12))))) (gLs (gCns (gNm 13) (gCns (gNm 14) gNls))))
    (sSeq (sSet 5 (eIf (bB (eCall 2 g_is_less (aCons (eVar 5) (aCons (eVar 13) aNil)) [])) (eVar 13) (eVar 5)))
    (sSet 6 (eIf (bB (eCall 2 g_is_less (aCons (eVar 14) (aCons (eVar 6) aNil)) [])) (eVar 14) (eVar 6))))))))))
    (sRet (eIf (bNot (bB (eCall 2 g_is_less (aCons (eVar 6) (aCons (eVar 5) aNil)) []))) (eTup (aCons (eVar 5) (aCons (eVar 6) aNil))) (eC .non))))))
def g_between : DS := runDef0 15 b_between
theorem safe_between : Safe g_between := safe_run0
theorem sc_between : FnScope ["grade", "mixture", "other", "one", "two", "least", "greatest", "pulp", "low", "high", "begin", "rise_by", "ends", "first", "last"] ["grade", "mixture", "other"] (defScope s_between) := ⟨rfl, rfl, rfl, by decide +kernel, rfl, by decide +kernel, by decide +kernel⟩
theorem ok_between {P : Program} {w : World} {K : PySem.W.Frag} {mg : Str → Option Value} {base : Heap} (T : Tx K mg) : FnOk P w K mg base CX0 6 T.a_between T.d_between ["grade", "mixture", "other"] (spG ⟨K, mg, true⟩ 3 g_between) :=
  T.F_between.ok (k := 5) sc_between (spG_len (ps := ["grade", "mixture", "other"])) fun cdv A outer s H vs Q E hr h => def_run (kt := true) (N := ["grade", "mixture", "other", "one", "two", "least", "greatest", "pulp", "low", "high", "begin", "rise_by", "ends", "first", "last"]) h fun c hc =>
  (ess_cons (es_par (i := 3) (j := 4) (by rfl) sc_between.nd (by rfl) (by rfl) (by decide) (by rfl) (by rfl) (ev_cl hc (ok_shares T) safe_shares (hr.mono (by decide)) (by rfl) T.m_shares T.k_shares T.b_shares (av_cons (vr 1) av_nil)) (ev_cl hc (ok_shares T) safe_shares (hr.mono (by decide)) (by rfl) T.m_shares T.k_shares T.b_shares (av_cons (vr 2) av_nil)) (by rfl))
    (ess_cons (es_par (i := 5) (j := 6) (by rfl) sc_between.nd (by rfl) (by rfl) (by decide) (by rfl) (by rfl) (ev_glT (by rfl) T.c_NOUGHT.choose_spec.1 T.c_NOUGHT.choose_spec.2 hc) (ev_glT (by rfl) T.c_ONE.choose_spec.1 T.c_ONE.choose_spec.2 hc) (by rfl))
    (ess_cons (es_for .never (by rfl) (iv_items (ev_cl hc (ok_bounds T) safe_bounds (hr.mono (by decide)) (by rfl) T.m_bounds T.k_bounds T.b_bounds (av_cons (vr 0) (av_cons (ev_add (ev_frz (nv_list (by rfl) (by rfl) T.z_list (vh 3))) (ev_frz (nv_list (by rfl) (by rfl) T.z_list (vh 4)))) av_nil)))) (gv_tp (by rfl) (gvs_cons (gv_nm (i := 7) sc_between.nd (by rfl) (by first | exact Or.inl rfl | exact Or.inr rfl)) (gvs_cons (gv_tp (by rfl) (gvs_cons (gv_nm (i := 8) sc_between.nd (by rfl) (by first | exact Or.inl rfl | exact Or.inr rfl)) (gvs_cons (gv_nm (i := 9) sc_between.nd (by rfl) (by first | exact Or.inl rfl | exact Or.inr rfl)) gvs_nil)) (by rfl) (by rfl) (gl_cons (gl_cons gl_nil))) gvs_nil)) (by rfl) (by rfl) (gl_cons (gl_cons gl_nil))) (ess_cons (es_set (i := 10) sc_between.nd (by rfl) (by first | exact Or.inl rfl | exact Or.inr rfl) (ev_get (hu1 hr) hc (vh 4) (vr 7) (ev_glT (by rfl) T.c_NOUGHT.choose_spec.1 T.c_NOUGHT.choose_spec.2 hc)))
    (ess_cons (es_set (i := 11) sc_between.nd (by rfl) (by first | exact Or.inl rfl | exact Or.inr rfl) (ev_cl hc (ok_minus T) safe_minus (hr.mono (by decide)) (by rfl) T.m_minus T.k_minus T.b_minus (av_cons (ev_get (hu1 hr) hc (vh 3) (vr 7) (ev_glT (by rfl) T.c_NOUGHT.choose_spec.1 T.c_NOUGHT.choose_spec.2 hc)) (av_cons (vr 10) av_nil))))
    (ess_cons (es_if (tv_eq (hu64 hr) (vr 11) (ev_glT (by rfl) T.c_NOUGHT.choose_spec.1 T.c_NOUGHT.choose_spec.2 hc)) (ess_cons (es_if (tv_w (wv_or (tv_e (ev_cl hc (ok_is_less T) safe_is_less (hr.mono (by decide)) (by rfl) T.m_is_less T.k_is_less T.b_is_less (av_cons (vr 10) (av_cons (vr 8) av_nil)))) (wv_or1 (tv_e (ev_cl hc (ok_is_less T) safe_is_less (hr.mono (by decide)) (by rfl) T.m_is_less T.k_is_less T.b_is_less (av_cons (vr 9) (av_cons (vr 10) av_nil))))))) (ess_one (es_ret ev_non)) ess_nil)
    (ess_one es_continue)) ess_nil)
    (ess_cons (es_set (i := 12) sc_between.nd (by rfl) (by first | exact Or.inl rfl | exact Or.inr rfl) (ev_frz (nv_lst (av_cons (ev_cl hc (ok_by T) safe_by (hr.mono (by decide)) (by rfl) T.m_by T.k_by T.b_by (av_cons (ev_cl hc (ok_minus T) safe_minus (hr.mono (by decide)) (by rfl) T.m_minus T.k_minus T.b_minus (av_cons (vr 8) (av_cons (vr 10) av_nil))) (av_cons (vr 11) av_nil))) (av_cons (ev_cl hc (ok_by T) safe_by (hr.mono (by decide)) (by rfl) T.m_by T.k_by T.b_by (av_cons (ev_cl hc (ok_minus T) safe_minus (hr.mono (by decide)) (by rfl) T.m_minus T.k_minus T.b_minus (av_cons (vr 9) (av_cons (vr 10) av_nil))) (av_cons (vr 11) av_nil))) av_nil)))))
    (ess_cons (es_asg (ev_if (tv_e (ev_cl hc (ok_is_less T) safe_is_less (hr.mono (by decide)) (by rfl) T.m_is_less T.k_is_less T.b_is_less (av_cons (ev_ix (hu1 hr) hc (vh 12) ev_int) (av_cons (ev_ix (hu1 hr) hc (vh 12) ev_int) av_nil)))) (vr 12) (ev_frz (nv_rev (vh 12)))) (gv_ls (by rfl) (gvs_cons (gv_nm (i := 13) sc_between.nd (by rfl) (by first | exact Or.inl rfl | exact Or.inr rfl)) (gvs_cons (gv_nm (i := 14) sc_between.nd (by rfl) (by first | exact Or.inl rfl | exact Or.inr rfl)) gvs_nil)) (by rfl) (by rfl) (gl_cons (gl_cons gl_nil))))
    (ess_cons (es_set (i := 5) sc_between.nd (by rfl) (by first | exact Or.inl rfl | exact Or.inr rfl) (ev_if (tv_e (ev_cl hc (ok_is_less T) safe_is_less (hr.mono (by decide)) (by rfl) T.m_is_less T.k_is_less T.b_is_less (av_cons (vr 5) (av_cons (vr 13) av_nil)))) (vr 13) (vr 5)))
    (ess_one (es_set (i := 6) sc_between.nd (by rfl) (by first | exact Or.inl rfl | exact Or.inr rfl) (ev_if (tv_e (ev_cl hc (ok_is_less T) safe_is_less (hr.mono (by decide)) (by rfl) T.m_is_less T.k_is_less T.b_is_less (av_cons (vr 14) (av_cons (vr 6) av_nil)))) (vr 14) (vr 6)))))))))))
    (ess_one (es_ret (ev_if (tv_not (tv_e (ev_cl hc (ok_is_less T) safe_is_less (hr.mono (by decide)) (by rfl) T.m_is_less T.k_is_less T.b_is_less (av_cons (vr 6) (av_cons (vr 5) av_nil))))) (ev_tup (av_cons (vr 5) (av_cons (vr 6) av_nil))) ev_non))))))
/-! ### _law_draw -/
def b__law_draw : SF :=
  (sSeq (sSet 2 (eC (.int 2305843009213693951)))
    (sSeq (sIf (bB (eOp hLt (eOpH (hIx true) (hE (eVar 0)) (eC (.int 2))) (eVar 1))) (sSeq (sSet 3 (eC (.int 0)))
    (sSeq (sIf (bB (eOp hGt (eCall1 hLen (hE (eOpH (hIx true) (hE (eVar 0)) (eC (.int 0))))) (eC (.int 0)))) (sSet 3 (eOpH (hIx true) (hE (eOpH (hIx true) (hE (eVar 0)) (eC (.int 0)))) (eOp hMod (eOpH (hIx true) (hE (eVar 0)) (eC (.int 1))) (eCall1 hLen (hE (eOpH (hIx true) (hE (eVar 0)) (eC (.int 0)))))))) sNx)
    (sSeq (sIf (bOr (bB (eOp hGe (eOpH (hIx true) (hE (eVar 0)) (eC (.int 1))) (eCall1 hLen (hE (eOpH (hIx true) (hE (eVar 0)) (eC (.int 0))))))) (bB (eOp hLt (eVar 3) (eOp hPow (eC (.int 10)) (eC (.int 18)))))) (sSeq (sSet 3 (eOp hMod (eOp hAdd (eVar 3) (eOp hMulI (eC (.int 1000003)) (eOpH (hIx true) (hE (eVar 0)) (eC (.int 1))))) (eVar 2)))
    (sSeq (sSet 3 (eOp hMod (eOp hAdd (eOp hAdd (eOp hMulI (eVar 3) (eVar 3)) (eOp hMulI (eC (.int 1181783497276652981)) (eVar 3))) (eC (.int 2049848353892358983))) (eVar 2)))
    (sSet 3 (eOp hMod (eOp hAdd (eOp hMulI (eVar 3) (eVar 3)) (eC (.int 1442695040888963407))) (eVar 2))))) sNx)
    (sSeq (sPutL true (eVar 0) (eC (.int 1)) (eOp hAdd (eOpH (hIx true) (hE (eVar 0)) (eC (.int 1))) (eC (.int 1))))
    (sPutL true (eVar 0) (eC (.int 2)) (eVar 3)))))) sNx)
    (sSeq (sSet 4 (eOp hMod (eOpH (hIx true) (hE (eVar 0)) (eC (.int 2))) (eVar 1)))
    (sSeq (sPutL true (eVar 0) (eC (.int 2)) (eOp hDiv (eOpH (hIx true) (hE (eVar 0)) (eC (.int 2))) (eVar 1)))
    (sRet (eVar 4))))))
def g__law_draw : DS := runDef0 5 b__law_draw
theorem safe__law_draw : Safe g__law_draw := safe_run0
theorem sc__law_draw : FnScope ["tape", "many", "prime", "cell", "found"] ["tape", "many"] (defScope s__law_draw) := ⟨rfl, rfl, rfl, by decide +kernel, rfl, by decide +kernel, by decide +kernel⟩
theorem ok__law_draw {P : Program} {w : World} {K : PySem.W.Frag} {mg : Str → Option Value} {base : Heap} (T : Tx K mg) : FnOk P w K mg base CX0 1 T.a__law_draw T.d__law_draw ["tape", "many"] (spG ⟨K, mg, true⟩ 2 g__law_draw) :=
  T.F__law_draw.ok (k := 0) sc__law_draw (spG_len (ps := ["tape", "many"])) fun cdv A outer s H vs Q E hr h => def_run (kt := true) (N := ["tape", "many", "prime", "cell", "found"]) h fun c hc =>
  (ess_cons (es_set (i := 2) sc__law_draw.nd (by rfl) (by first | exact Or.inl rfl | exact Or.inr rfl) ev_int)
    (ess_cons (es_if (tv_lt (hu0 hr) (ev_ix (hu1 hr) hc (vh 0) ev_int) (vr 1)) (ess_cons (es_set (i := 3) sc__law_draw.nd (by rfl) (by first | exact Or.inl rfl | exact Or.inr rfl) ev_int)
    (ess_cons (es_if (tv_gt (ev_len (by rfl) T.z_len (hv_e (ev_ix (hu1 hr) hc (vh 0) ev_int))) ev_int) (ess_one (es_set (i := 3) sc__law_draw.nd (by rfl) (by first | exact Or.inl rfl | exact Or.inr rfl) (ev_ix (hu1 hr) hc (hv_e (ev_ix (hu1 hr) hc (vh 0) ev_int)) (ev_mod (ev_ix (hu1 hr) hc (vh 0) ev_int) (ev_len (by rfl) T.z_len (hv_e (ev_ix (hu1 hr) hc (vh 0) ev_int))))))) ess_nil)
    (ess_cons (es_if (tv_w (wv_or (tv_ge (ev_ix (hu1 hr) hc (vh 0) ev_int) (ev_len (by rfl) T.z_len (hv_e (ev_ix (hu1 hr) hc (vh 0) ev_int)))) (wv_or1 (tv_lt (hu0 hr) (vr 3) (ev_pow ev_int ev_int))))) (ess_cons (es_set (i := 3) sc__law_draw.nd (by rfl) (by first | exact Or.inl rfl | exact Or.inr rfl) (ev_mod (ev_add (vr 3) (ev_mul ev_int (ev_ix (hu1 hr) hc (vh 0) ev_int))) (vr 2)))
    (ess_cons (es_set (i := 3) sc__law_draw.nd (by rfl) (by first | exact Or.inl rfl | exact Or.inr rfl) (ev_mod (ev_add (ev_add (ev_mul (vr 3) (vr 3)) (ev_mul ev_int (vr 3))) ev_int) (vr 2)))
    (ess_one (es_set (i := 3) sc__law_draw.nd (by rfl) (by first | exact Or.inl rfl | exact Or.inr rfl) (ev_mod (ev_add (ev_mul (vr 3) (vr 3)) ev_int) (vr 2)))))) ess_nil)
    (ess_cons (es_putL (hu1 hr) hc (vr 0) ev_int (ev_add (ev_ix (hu1 hr) hc (vh 0) ev_int) ev_int))
    (ess_one (es_putL (hu1 hr) hc (vr 0) ev_int (vr 3))))))) ess_nil)
    (ess_cons (es_set (i := 4) sc__law_draw.nd (by rfl) (by first | exact Or.inl rfl | exact Or.inr rfl) (ev_mod (ev_ix (hu1 hr) hc (vh 0) ev_int) (vr 1)))
    (ess_cons (es_putL (hu1 hr) hc (vr 0) ev_int (ev_fdiv (ev_ix (hu1 hr) hc (vh 0) ev_int) (vr 1)))
    (ess_one (es_ret (vr 4)))))))
/-! ### _law_like -/
def b__law_like (rec : DS) : SF :=
  (sSeq (sIf (bB (eIsi2 .list .tuple (hE (eVar 0)))) (sSeq (sIf (bOr (bB (eOp hNe (eIsi .list (hE (eVar 0))) (eIsi .list (hE (eVar 1))))) (bB (eOp hNe (eIsi .tuple (hE (eVar 0))) (eIsi .tuple (hE (eVar 1)))))) (sRet (eC (.bl false))) sNx)
    (sSeq (sIf (bB (eOp hNe (eCall1 hLen (hE (eVar 0))) (eCall1 hLen (hE (eVar 1))))) (sRet (eC (.bl false))) sNx)
    (sRet (eOp hEq (eFrz (nComp (iRg1 (eCall1 hLen (hE (eVar 0)))) (gNm 2) (bNot (bB (eCall 2 rec (aCons (eOpH (hIx true) (hE (eVar 0)) (eVar 2)) (aCons (eOpH (hIx true) (hE (eVar 1)) (eVar 2)) aNil)) []))) (eVar 2) [2])) (eFrz (nLst aNil)))))) sNx)
    (sSeq (sIf (bB (eIsi2 .list .tuple (hE (eVar 1)))) (sRet (eC (.bl false))) sNx)
    (sRet (eAnd (eOp hEq (eIsi .bool (hE (eVar 0))) (eIsi .bool (hE (eVar 1)))) (eOp hEq (eVar 0) (eVar 1))))))
def g__law_like : Nat → DS
  | 0 => fun _ _ => none
  | n + 1 => runDef0 3 (b__law_like (g__law_like n))
theorem safe__law_like : ∀ n, Safe (g__law_like n)
  | 0 => safe_none
  | n + 1 => safe_run0
theorem sc__law_like : FnScope ["one", "two", "k"] ["one", "two"] (defScope s__law_like) := ⟨rfl, rfl, rfl, by decide +kernel, rfl, by decide +kernel, by decide +kernel⟩
theorem ok__law_like {P : Program} {w : World} {K : PySem.W.Frag} {mg : Str → Option Value} {base : Heap} (T : Tx K mg) : ∀ n : Nat, FnOk P w K mg base CX0 (1 + n) T.a__law_like T.d__law_like ["one", "two"] (spG ⟨K, mg, true⟩ 2 (g__law_like n))
  | 0 => def_none (k := 0) T.F__law_like sc__law_like
  | n + 1 => T.F__law_like.ok (k := 1 + n) sc__law_like (spG_len (ps := ["one", "two"])) fun cdv A outer s H vs Q E hr h => def_run (kt := true) (N := ["one", "two", "k"]) h fun c hc => by
    have ih := ok__law_like (P := P) (w := w) (base := base) T n
    have hsf := safe__law_like n
    exact (ess_cons (es_if (tv_e (ev_isi2 (T := .list) (U := .tuple) (by rfl) T.z_isinstance (by rfl) T.z_list (by rfl) T.z_tuple (vh 0))) (ess_cons (es_if (tv_w (wv_or (tv_ne (hu64 hr) (ev_isi (T := .list) (by rfl) T.z_isinstance (by rfl) T.z_list (vh 0)) (ev_isi (T := .list) (by rfl) T.z_isinstance (by rfl) T.z_list (vh 1))) (wv_or1 (tv_ne (hu64 hr) (ev_isi (T := .tuple) (by rfl) T.z_isinstance (by rfl) T.z_tuple (vh 0)) (ev_isi (T := .tuple) (by rfl) T.z_isinstance (by rfl) T.z_tuple (vh 1)))))) (ess_one (es_ret ev_bl)) ess_nil)
    (ess_cons (es_if (tv_ne (hu64 hr) (ev_len (by rfl) T.z_len (vh 0)) (ev_len (by rfl) T.z_len (vh 1))) (ess_one (es_ret ev_bl)) ess_nil)
    (ess_one (es_ret (ev_eq (hu64 hr) (ev_frz (nv_lc (by rfl) sc__law_like.nd (own := ([("k", 2)] : List (Str × Nat))) (iv_range1 (by rfl) T.z_range (ev_len (by rfl) T.z_len (vh 0))) (blkOk_by (N := ["one", "two", "k"]) (sc := defScope s__law_like) (by decide +kernel)) (fun _ _ _ _ _ => (gv_nm (i := 2) sc__law_like.nd (by rfl) (by first | exact Or.inl rfl | exact Or.inr rfl))) (fun _ _ _ _ _ => (tvs_one (tv_not (tv_e (ev_cl hc ih hsf hr (by rfl) T.m__law_like T.k__law_like T.b__law_like (av_cons (ev_ix (hu1 hr) hc (vh 0) (vr 2)) (av_cons (ev_ix (hu1 hr) hc (vh 1) (vr 2)) av_nil))))))) (fun _ _ _ _ _ => (vr 2)))) (ev_frz (nv_lst av_nil))))))) ess_nil)
    (ess_cons (es_if (tv_e (ev_isi2 (T := .list) (U := .tuple) (by rfl) T.z_isinstance (by rfl) T.z_list (by rfl) T.z_tuple (vh 1))) (ess_one (es_ret ev_bl)) ess_nil)
    (ess_one (es_ret (ev_and (ev_eq (hu64 hr) (ev_isi (T := .bool) (by rfl) T.z_isinstance (by rfl) T.z_bool (vh 0)) (ev_isi (T := .bool) (by rfl) T.z_isinstance (by rfl) T.z_bool (vh 1))) (ev_one (ev_eq (hu64 hr) (vr 0) (vr 1))))))))
/-! ### _law_common -/
def b__law_common : SF :=
  (sSeq (wLoop (bB (eOp hNe (eVar 0) (eC (.int 0)))) (sPar 0 1 (eOp hMod (eVar 1) (eVar 0)) (eVar 0)) fuelN)
    (sRet (eVar 1)))
def g__law_common : DS := runDef0 2 b__law_common
theorem safe__law_common : Safe g__law_common := safe_run0
theorem sc__law_common : FnScope ["one", "other"] ["one", "other"] (defScope s__law_common) := ⟨rfl, rfl, rfl, by decide +kernel, rfl, by decide +kernel, by decide +kernel⟩
theorem ok__law_common {P : Program} {w : World} {K : PySem.W.Frag} {mg : Str → Option Value} {base : Heap} (T : Tx K mg) : FnOk P w K mg base CX0 1 T.a__law_common T.d__law_common ["one", "other"] (spG ⟨K, mg, true⟩ 2 g__law_common) :=
  T.F__law_common.ok (k := 0) sc__law_common (spG_len (ps := ["one", "other"])) fun cdv A outer s H vs Q E hr h => def_run (kt := true) (N := ["one", "other"]) h fun c hc =>
  (ess_cons (es_while fuelN .never (tv_ne (hu64 hr) (vr 0) ev_int) (ess_one (es_par (i := 0) (j := 1) (by rfl) sc__law_common.nd (by rfl) (by rfl) (by decide) (by rfl) (by rfl) (ev_mod (vr 1) (vr 0)) (vr 0) (by rfl))))
    (ess_one (es_ret (vr 1))))
/-! ### _law_frac -/
def b__law_frac : SF :=
  (sSeq (sSet 2 (eCall 2 g__law_common (aCons (eCall1 hAbs (hE (eVar 0))) (aCons (eVar 1) aNil)) []))
    (sRet (eTup (aCons (eOp hDiv (eVar 0) (eVar 2)) (aCons (eOp hDiv (eVar 1) (eVar 2)) aNil)))))
def g__law_frac : DS := runDef0 3 b__law_frac
theorem safe__law_frac : Safe g__law_frac := safe_run0
theorem sc__law_frac : FnScope ["top", "bottom", "share"] ["top", "bottom"] (defScope s__law_frac) := ⟨rfl, rfl, rfl, by decide +kernel, rfl, by decide +kernel, by decide +kernel⟩
theorem ok__law_frac {P : Program} {w : World} {K : PySem.W.Frag} {mg : Str → Option Value} {base : Heap} (T : Tx K mg) : FnOk P w K mg base CX0 2 T.a__law_frac T.d__law_frac ["top", "bottom"] (spG ⟨K, mg, true⟩ 2 g__law_frac) :=
  T.F__law_frac.ok (k := 1) sc__law_frac (spG_len (ps := ["top", "bottom"])) fun cdv A outer s H vs Q E hr h => def_run (kt := true) (N := ["top", "bottom", "share"]) h fun c hc =>
  (ess_cons (es_set (i := 2) sc__law_frac.nd (by rfl) (by first | exact Or.inl rfl | exact Or.inr rfl) (ev_cl hc (ok__law_common T) safe__law_common (hr.mono (by decide)) (by rfl) T.m__law_common T.k__law_common T.b__law_common (av_cons (ev_abs (by rfl) T.z_abs (vh 0)) (av_cons (vr 1) av_nil))))
    (ess_one (es_ret (ev_tup (av_cons (ev_fdiv (vr 0) (vr 2)) (av_cons (ev_fdiv (vr 1) (vr 2)) av_nil))))))
/-! ### _law_sum -/
def b__law_sum : SF :=
  (sRet (eCall 2 g__law_frac (aCons (eOp hAdd (eOp hMulI (eOpH (hIx true) (hE (eVar 0)) (eC (.int 0))) (eOpH (hIx true) (hE (eVar 1)) (eC (.int 1)))) (eOp hMulI (eOpH (hIx true) (hE (eVar 1)) (eC (.int 0))) (eOpH (hIx true) (hE (eVar 0)) (eC (.int 1))))) (aCons (eOp hMulI (eOpH (hIx true) (hE (eVar 0)) (eC (.int 1))) (eOpH (hIx true) (hE (eVar 1)) (eC (.int 1)))) aNil)) []))
def g__law_sum : DS := runDef0 2 b__law_sum
theorem safe__law_sum : Safe g__law_sum := safe_run0
theorem sc__law_sum : FnScope ["one", "other"] ["one", "other"] (defScope s__law_sum) := ⟨rfl, rfl, rfl, by decide +kernel, rfl, by decide +kernel, by decide +kernel⟩
theorem ok__law_sum {P : Program} {w : World} {K : PySem.W.Frag} {mg : Str → Option Value} {base : Heap} (T : Tx K mg) : FnOk P w K mg base CX0 3 T.a__law_sum T.d__law_sum ["one", "other"] (spG ⟨K, mg, true⟩ 2 g__law_sum) :=
  T.F__law_sum.ok (k := 2) sc__law_sum (spG_len (ps := ["one", "other"])) fun cdv A outer s H vs Q E hr h => def_run (kt := true) (N := ["one", "other"]) h fun c hc =>
  (ess_one (es_ret (ev_cl hc (ok__law_frac T) safe__law_frac (hr.mono (by decide)) (by rfl) T.m__law_frac T.k__law_frac T.b__law_frac (av_cons (ev_add (ev_mul (ev_ix (hu1 hr) hc (vh 0) ev_int) (ev_ix (hu1 hr) hc (vh 1) ev_int)) (ev_mul (ev_ix (hu1 hr) hc (vh 1) ev_int) (ev_ix (hu1 hr) hc (vh 0) ev_int))) (av_cons (ev_mul (ev_ix (hu1 hr) hc (vh 0) ev_int) (ev_ix (hu1 hr) hc (vh 1) ev_int)) av_nil)))))
/-! ### _law_part -/
def b__law_part : SF :=
  (sRet (eCall 2 g__law_frac (aCons (eOp hMulI (eOpH (hIx true) (hE (eVar 0)) (eC (.int 0))) (eOpH (hIx true) (hE (eVar 1)) (eC (.int 0)))) (aCons (eOp hMulI (eOpH (hIx true) (hE (eVar 0)) (eC (.int 1))) (eOpH (hIx true) (hE (eVar 1)) (eC (.int 1)))) aNil)) []))
def g__law_part : DS := runDef0 2 b__law_part
theorem safe__law_part : Safe g__law_part := safe_run0
theorem sc__law_part : FnScope ["amount", "share"] ["amount", "share"] (defScope s__law_part) := ⟨rfl, rfl, rfl, by decide +kernel, rfl, by decide +kernel, by decide +kernel⟩
theorem ok__law_part {P : Program} {w : World} {K : PySem.W.Frag} {mg : Str → Option Value} {base : Heap} (T : Tx K mg) : FnOk P w K mg base CX0 3 T.a__law_part T.d__law_part ["amount", "share"] (spG ⟨K, mg, true⟩ 2 g__law_part) :=
  T.F__law_part.ok (k := 2) sc__law_part (spG_len (ps := ["amount", "share"])) fun cdv A outer s H vs Q E hr h => def_run (kt := true) (N := ["amount", "share"]) h fun c hc =>
  (ess_one (es_ret (ev_cl hc (ok__law_frac T) safe__law_frac (hr.mono (by decide)) (by rfl) T.m__law_frac T.k__law_frac T.b__law_frac (av_cons (ev_mul (ev_ix (hu1 hr) hc (vh 0) ev_int) (ev_ix (hu1 hr) hc (vh 1) ev_int)) (av_cons (ev_mul (ev_ix (hu1 hr) hc (vh 0) ev_int) (ev_ix (hu1 hr) hc (vh 1) ev_int)) av_nil)))))
/-! ### _law_below -/
def b__law_below : SF :=
  (sRet (eOp hLt (eOp hMulI (eOpH (hIx true) (hE (eVar 0)) (eC (.int 0))) (eOpH (hIx true) (hE (eVar 1)) (eC (.int 1)))) (eOp hMulI (eOpH (hIx true) (hE (eVar 1)) (eC (.int 0))) (eOpH (hIx true) (hE (eVar 0)) (eC (.int 1))))))
def g__law_below : DS := runDef0 2 b__law_below
theorem safe__law_below : Safe g__law_below := safe_run0
theorem sc__law_below : FnScope ["one", "other"] ["one", "other"] (defScope s__law_below) := ⟨rfl, rfl, rfl, by decide +kernel, rfl, by decide +kernel, by decide +kernel⟩
theorem ok__law_below {P : Program} {w : World} {K : PySem.W.Frag} {mg : Str → Option Value} {base : Heap} (T : Tx K mg) : FnOk P w K mg base CX0 1 T.a__law_below T.d__law_below ["one", "other"] (spG ⟨K, mg, true⟩ 2 g__law_below) :=
  T.F__law_below.ok (k := 0) sc__law_below (spG_len (ps := ["one", "other"])) fun cdv A outer s H vs Q E hr h => def_run (kt := true) (N := ["one", "other"]) h fun c hc =>
  (ess_one (es_ret (ev_lt (hu0 hr) (ev_mul (ev_ix (hu1 hr) hc (vh 0) ev_int) (ev_ix (hu1 hr) hc (vh 1) ev_int)) (ev_mul (ev_ix (hu1 hr) hc (vh 1) ev_int) (ev_ix (hu1 hr) hc (vh 0) ev_int)))))
/-! ### _law_total -/
def b__law_total : SF :=
  (sSeq (sSet 1 (eTup (aCons (eC (.int 0)) (aCons (eC (.int 1)) aNil))))
    (sSeq (sFor (iE (eVar 0)) (gTp (gCns (gNm 2) (gCns (gNm 3) gNls))) (sSet 1 (eCall 2 g__law_sum (aCons (eVar 1) (aCons (eVar 3) aNil)) [])))
    (sRet (eVar 1))))
def g__law_total : DS := runDef0 4 b__law_total
theorem safe__law_total : Safe g__law_total := safe_run0
theorem sc__law_total : FnScope ["mixture", "found", "part", "amount"] ["mixture"] (defScope s__law_total) := ⟨rfl, rfl, rfl, by decide +kernel, rfl, by decide +kernel, by decide +kernel⟩
theorem ok__law_total {P : Program} {w : World} {K : PySem.W.Frag} {mg : Str → Option Value} {base : Heap} (T : Tx K mg) : FnOk P w K mg base CX0 4 T.a__law_total T.d__law_total ["mixture"] (spG ⟨K, mg, true⟩ 1 g__law_total) :=
  T.F__law_total.ok (k := 3) sc__law_total (spG_len (ps := ["mixture"])) fun cdv A outer s H vs Q E hr h => def_run (kt := true) (N := ["mixture", "found", "part", "amount"]) h fun c hc =>
  (ess_cons (es_set (i := 1) sc__law_total.nd (by rfl) (by first | exact Or.inl rfl | exact Or.inr rfl) (ev_tup (av_cons ev_int (av_cons ev_int av_nil))))
    (ess_cons (es_for .never (by rfl) (iv_e (vr 0)) (gv_tp (by rfl) (gvs_cons (gv_nm (i := 2) sc__law_total.nd (by rfl) (by first | exact Or.inl rfl | exact Or.inr rfl)) (gvs_cons (gv_nm (i := 3) sc__law_total.nd (by rfl) (by first | exact Or.inl rfl | exact Or.inr rfl)) gvs_nil)) (by rfl) (by rfl) (gl_cons (gl_cons gl_nil))) (ess_one (es_set (i := 1) sc__law_total.nd (by rfl) (by first | exact Or.inl rfl | exact Or.inr rfl) (ev_cl hc (ok__law_sum T) safe__law_sum (hr.mono (by decide)) (by rfl) T.m__law_sum T.k__law_sum T.b__law_sum (av_cons (vr 1) (av_cons (vr 3) av_nil))))))
    (ess_one (es_ret (vr 1)))))
/-! ### _law_together -/
def b__law_together : SF :=
  (sSeq (sOwn 2 nDk)
    (sSeq (sFor (iE (eOp hAdd (eFrz (nCall1 nList (hE (eVar 0)))) (eFrz (nCall1 nList (hE (eVar 1)))))) (gTp (gCns (gNm 3) (gCns (gNm 4) gNls))) (sPutO true 2 (eVar 3) (eCall 2 g__law_sum (aCons (eGet true (hOwn 2) (eVar 3) (eTup (aCons (eC (.int 0)) (aCons (eC (.int 1)) aNil)))) (aCons (eVar 4) aNil)) [])))
    (sRet (eCall1 hTuple (hE (eFrz (nComp (iE (eFrz (nCall1 nSorted (hOwn 2)))) (gNm 3) pYes (eTup (aCons (eVar 3) (aCons (eOpH (hIx true) (hOwn 2) (eVar 3)) aNil))) [3])))))))
def g__law_together : DS := runDef0 5 b__law_together
theorem safe__law_together : Safe g__law_together := safe_run0
theorem sc__law_together : FnScope ["one", "other", "found", "part", "amount"] ["one", "other"] (defScope s__law_together) := ⟨rfl, rfl, rfl, by decide +kernel, rfl, by decide +kernel, by decide +kernel⟩
theorem ok__law_together {P : Program} {w : World} {K : PySem.W.Frag} {mg : Str → Option Value} {base : Heap} (T : Tx K mg) : FnOk P w K mg base CX0 4 T.a__law_together T.d__law_together ["one", "other"] (spG ⟨K, mg, true⟩ 2 g__law_together) :=
  T.F__law_together.ok (k := 3) sc__law_together (spG_len (ps := ["one", "other"])) fun cdv A outer s H vs Q E hr h => def_run (kt := true) (N := ["one", "other", "found", "part", "amount"]) h fun c hc =>
  (ess_cons (es_own (i := 2) sc__law_together.nd (by rfl) (by first | exact Or.inl rfl | exact Or.inr rfl) nv_dk)
    (ess_cons (es_for .never (by rfl) (iv_e (ev_add (ev_frz (nv_list (by rfl) (by rfl) T.z_list (vh 0))) (ev_frz (nv_list (by rfl) (by rfl) T.z_list (vh 1))))) (gv_tp (by rfl) (gvs_cons (gv_nm (i := 3) sc__law_together.nd (by rfl) (by first | exact Or.inl rfl | exact Or.inr rfl)) (gvs_cons (gv_nm (i := 4) sc__law_together.nd (by rfl) (by first | exact Or.inl rfl | exact Or.inr rfl)) gvs_nil)) (by rfl) (by rfl) (gl_cons (gl_cons gl_nil))) (ess_one (es_putO (i := 2) (hu1 hr) hc (by rfl) (by first | exact Or.inl rfl | exact Or.inr (Or.inl rfl) | exact Or.inr (Or.inr rfl)) (vr 3) (ev_cl hc (ok__law_sum T) safe__law_sum (hr.mono (by decide)) (by rfl) T.m__law_sum T.k__law_sum T.b__law_sum (av_cons (ev_get (hu1 hr) hc (vo 2) (vr 3) (ev_tup (av_cons ev_int (av_cons ev_int av_nil)))) (av_cons (vr 4) av_nil))))))
    (ess_one (es_ret (ev_tuple (by rfl) T.z_tuple (hv_e (ev_frz (nv_lc (by rfl) sc__law_together.nd (own := ([("part", 3)] : List (Str × Nat))) (iv_e (ev_frz (nv_sorted (by rfl) (by rfl) T.z_sorted (vo 2)))) (blkOk_by (N := ["one", "other", "found", "part", "amount"]) (sc := defScope s__law_together) (by decide +kernel)) (fun _ _ _ _ _ => (gv_nm (i := 3) sc__law_together.nd (by rfl) (by first | exact Or.inl rfl | exact Or.inr rfl))) (fun _ _ _ _ _ => tvs_nil) (fun _ _ _ _ _ => (ev_tup (av_cons (vr 3) (av_cons (ev_ix (hu1 hr) hc (vo 2) (vr 3)) av_nil))))))))))))
/-! ### _law_share_of -/
def b__law_share_of : SF :=
  (sSeq (sIf (bB (eOp hEq (eOpH (hIx true) (hE (eVar 1)) (eC (.int 0))) (eC (.int 0)))) (sRet (eTup aNil)) sNx)
    (sRet (eCall1 hTuple (hE (eFrz (nComp (iE (eVar 0)) (gTp (gCns (gNm 2) (gCns (gNm 3) gNls))) pYes (eTup (aCons (eVar 2) (aCons (eCall 2 g__law_part (aCons (eVar 3) (aCons (eVar 1) aNil)) []) aNil))) [2, 3]))))))
def g__law_share_of : DS := runDef0 4 b__law_share_of
theorem safe__law_share_of : Safe g__law_share_of := safe_run0
theorem sc__law_share_of : FnScope ["mixture", "share", "part", "amount"] ["mixture", "share"] (defScope s__law_share_of) := ⟨rfl, rfl, rfl, by decide +kernel, rfl, by decide +kernel, by decide +kernel⟩
theorem ok__law_share_of {P : Program} {w : World} {K : PySem.W.Frag} {mg : Str → Option Value} {base : Heap} (T : Tx K mg) : FnOk P w K mg base CX0 4 T.a__law_share_of T.d__law_share_of ["mixture", "share"] (spG ⟨K, mg, true⟩ 2 g__law_share_of) :=
  T.F__law_share_of.ok (k := 3) sc__law_share_of (spG_len (ps := ["mixture", "share"])) fun cdv A outer s H vs Q E hr h => def_run (kt := true) (N := ["mixture", "share", "part", "amount"]) h fun c hc =>
  (ess_cons (es_if (tv_eq (hu64 hr) (ev_ix (hu1 hr) hc (vh 1) ev_int) ev_int) (ess_one (es_ret (ev_tup av_nil))) ess_nil)
    (ess_one (es_ret (ev_tuple (by rfl) T.z_tuple (hv_e (ev_frz (nv_lc (by rfl) sc__law_share_of.nd (own := ([("part", 2), ("amount", 3)] : List (Str × Nat))) (iv_e (vr 0)) (blkOk_by (N := ["mixture", "share", "part", "amount"]) (sc := defScope s__law_share_of) (by decide +kernel)) (fun _ _ _ _ _ => (gv_tp (by rfl) (gvs_cons (gv_nm (i := 2) sc__law_share_of.nd (by rfl) (by first | exact Or.inl rfl | exact Or.inr rfl)) (gvs_cons (gv_nm (i := 3) sc__law_share_of.nd (by rfl) (by first | exact Or.inl rfl | exact Or.inr rfl)) gvs_nil)) (by rfl) (by rfl) (gl_cons (gl_cons gl_nil)))) (fun _ _ _ _ _ => tvs_nil) (fun _ _ _ _ _ => (ev_tup (av_cons (vr 2) (av_cons (ev_cl hc (ok__law_part T) safe__law_part (hr.mono (by decide)) (by rfl) T.m__law_part T.k__law_part T.b__law_part (av_cons (vr 3) (av_cons (vr 1) av_nil))) av_nil)))))))))))
/-! ### _law_amount -/
def b__law_amount : SF :=
  (sRet (eCall 2 g__law_frac (aCons (eOp hAdd (eC (.int 1)) (eCall 2 g__law_draw (aCons (eVar 0) (aCons (eOpH (hIx true) (hE (eFrz (nLst (aCons (eC (.int 3)) (aCons (eC (.int 50)) (aCons (eOp hPow (eC (.int 10)) (eC (.int 6))) aNil)))))) (eCall 2 g__law_draw (aCons (eVar 0) (aCons (eC (.int 3)) aNil)) [])) aNil)) [])) (aCons (eOp hAdd (eC (.int 1)) (eCall 2 g__law_draw (aCons (eVar 0) (aCons (eC (.int 7)) aNil)) [])) aNil)) []))
def g__law_amount : DS := runDef0 1 b__law_amount
theorem safe__law_amount : Safe g__law_amount := safe_run0
theorem sc__law_amount : FnScope ["tape"] ["tape"] (defScope s__law_amount) := ⟨rfl, rfl, rfl, by decide +kernel, rfl, by decide +kernel, by decide +kernel⟩
theorem ok__law_amount {P : Program} {w : World} {K : PySem.W.Frag} {mg : Str → Option Value} {base : Heap} (T : Tx K mg) : FnOk P w K mg base CX0 3 T.a__law_amount T.d__law_amount ["tape"] (spG ⟨K, mg, true⟩ 1 g__law_amount) :=
  T.F__law_amount.ok (k := 2) sc__law_amount (spG_len (ps := ["tape"])) fun cdv A outer s H vs Q E hr h => def_run (kt := true) (N := ["tape"]) h fun c hc =>
  (ess_one (es_ret (ev_cl hc (ok__law_frac T) safe__law_frac (hr.mono (by decide)) (by rfl) T.m__law_frac T.k__law_frac T.b__law_frac (av_cons (ev_add ev_int (ev_cl hc (ok__law_draw T) safe__law_draw (hr.mono (by decide)) (by rfl) T.m__law_draw T.k__law_draw T.b__law_draw (av_cons (vr 0) (av_cons (ev_ix (hu1 hr) hc (hv_e (ev_frz (nv_lst (av_cons ev_int (av_cons ev_int (av_cons (ev_pow ev_int ev_int) av_nil)))))) (ev_cl hc (ok__law_draw T) safe__law_draw (hr.mono (by decide)) (by rfl) T.m__law_draw T.k__law_draw T.b__law_draw (av_cons (vr 0) (av_cons ev_int av_nil)))) av_nil)))) (av_cons (ev_add ev_int (ev_cl hc (ok__law_draw T) safe__law_draw (hr.mono (by decide)) (by rfl) T.m__law_draw T.k__law_draw T.b__law_draw (av_cons (vr 0) (av_cons ev_int av_nil)))) av_nil)))))
/-! ### _law_mixture -/
def b__law_mixture : SF :=
  (sSeq (sOwn 2 nDk)
    (sSeq (sFor (iRg1 (eCall 2 g__law_draw (aCons (eVar 0) (aCons (eOp hAdd (eVar 1) (eC (.int 1))) aNil)) [])) (gNm 3) (sSeq (sSet 4 (eOpH (hIx true) (hE (eFrz (nLst (aCons (eC (.str "birch")) (aCons (eC (.str "pine")) (aCons (eC (.str "rag")) (aCons (eC (.str "straw")) (aCons (eC (.str "a")) (aCons (eC (.str "zzzzzzzz")) (aCons (eC (.str "hemp")) (aCons (eC (.str "kapok")) aNil))))))))))) (eCall 2 g__law_draw (aCons (eVar 0) (aCons (eC (.int 8)) aNil)) [])))
    (sPutO true 2 (eVar 4) (eCall 1 g__law_amount (aCons (eVar 0) aNil) []))))
    (sRet (eCall1 hTuple (hE (eFrz (nComp (iE (eFrz (nCall1 nSorted (hOwn 2)))) (gNm 4) pYes (eTup (aCons (eVar 4) (aCons (eOpH (hIx true) (hOwn 2) (eVar 4)) aNil))) [4])))))))
def g__law_mixture : DS := runDef0 5 b__law_mixture
theorem safe__law_mixture : Safe g__law_mixture := safe_run0
theorem sc__law_mixture : FnScope ["tape", "most", "found", "k", "pulp"] ["tape", "most"] (defScope s__law_mixture) := ⟨rfl, rfl, rfl, by decide +kernel, rfl, by decide +kernel, by decide +kernel⟩
theorem ok__law_mixture {P : Program} {w : World} {K : PySem.W.Frag} {mg : Str → Option Value} {base : Heap} (T : Tx K mg) : FnOk P w K mg base CX0 4 T.a__law_mixture T.d__law_mixture ["tape", "most"] (spG ⟨K, mg, true⟩ 2 g__law_mixture) :=
  T.F__law_mixture.ok (k := 3) sc__law_mixture (spG_len (ps := ["tape", "most"])) fun cdv A outer s H vs Q E hr h => def_run (kt := true) (N := ["tape", "most", "found", "k", "pulp"]) h fun c hc =>
  (ess_cons (es_own (i := 2) sc__law_mixture.nd (by rfl) (by first | exact Or.inl rfl | exact Or.inr rfl) nv_dk)
    (ess_cons (es_for .never (by rfl) (iv_range1 (by rfl) T.z_range (ev_cl hc (ok__law_draw T) safe__law_draw (hr.mono (by decide)) (by rfl) T.m__law_draw T.k__law_draw T.b__law_draw (av_cons (vr 0) (av_cons (ev_add (vr 1) ev_int) av_nil)))) (gv_nm (i := 3) sc__law_mixture.nd (by rfl) (by first | exact Or.inl rfl | exact Or.inr rfl)) (ess_cons (es_set (i := 4) sc__law_mixture.nd (by rfl) (by first | exact Or.inl rfl | exact Or.inr rfl) (ev_ix (hu1 hr) hc (hv_e (ev_frz (nv_lst (av_cons ev_str (av_cons ev_str (av_cons ev_str (av_cons ev_str (av_cons ev_str (av_cons ev_str (av_cons ev_str (av_cons ev_str av_nil))))))))))) (ev_cl hc (ok__law_draw T) safe__law_draw (hr.mono (by decide)) (by rfl) T.m__law_draw T.k__law_draw T.b__law_draw (av_cons (vr 0) (av_cons ev_int av_nil)))))
    (ess_one (es_putO (i := 2) (hu1 hr) hc (by rfl) (by first | exact Or.inl rfl | exact Or.inr (Or.inl rfl) | exact Or.inr (Or.inr rfl)) (vr 4) (ev_cl hc (ok__law_amount T) safe__law_amount (hr.mono (by decide)) (by rfl) T.m__law_amount T.k__law_amount T.b__law_amount (av_cons (vr 0) av_nil))))))
    (ess_one (es_ret (ev_tuple (by rfl) T.z_tuple (hv_e (ev_frz (nv_lc (by rfl) sc__law_mixture.nd (own := ([("pulp", 4)] : List (Str × Nat))) (iv_e (ev_frz (nv_sorted (by rfl) (by rfl) T.z_sorted (vo 2)))) (blkOk_by (N := ["tape", "most", "found", "k", "pulp"]) (sc := defScope s__law_mixture) (by decide +kernel)) (fun _ _ _ _ _ => (gv_nm (i := 4) sc__law_mixture.nd (by rfl) (by first | exact Or.inl rfl | exact Or.inr rfl))) (fun _ _ _ _ _ => tvs_nil) (fun _ _ _ _ _ => (ev_tup (av_cons (vr 4) (av_cons (ev_ix (hu1 hr) hc (vo 2) (vr 4)) av_nil))))))))))))
/-! ### _law_grade -/
def b__law_grade : SF :=
  (sSeq (sOwn 1 nDk)
    (sSeq (sFor (iRg1 (eOp hAdd (eC (.int 1)) (eCall 2 g__law_draw (aCons (eVar 0) (aCons (eC (.int 5)) aNil)) []))) (gNm 2) (sSeq (sSet 3 (eOpH (hIx true) (hE (eFrz (nLst (aCons (eC (.int 0)) (aCons (eC (.int 0)) (aCons (eC (.int 0)) (aCons (eC (.int 10)) (aCons (eCall 2 g__law_draw (aCons (eVar 0) (aCons (eC (.int 101)) aNil)) []) aNil)))))))) (eCall 2 g__law_draw (aCons (eVar 0) (aCons (eC (.int 5)) aNil)) [])))
    (sSeq (sSet 4 (eOpH (hIx true) (hE (eFrz (nLst (aCons (eC (.int 100)) (aCons (eC (.int 100)) (aCons (eVar 3) (aCons (eOp hMax2 (eVar 3) (eC (.int 60))) (aCons (eOp hAdd (eVar 3) (eCall 2 g__law_draw (aCons (eVar 0) (aCons (eOp hSub (eC (.int 101)) (eVar 3)) aNil)) [])) aNil)))))))) (eCall 2 g__law_draw (aCons (eVar 0) (aCons (eC (.int 5)) aNil)) [])))
    (sPutO true 1 (eOpH (hIx true) (hE (eFrz (nLst (aCons (eC (.str "birch")) (aCons (eC (.str "pine")) (aCons (eC (.str "rag")) (aCons (eC (.str "straw")) (aCons (eC (.str "a")) (aCons (eC (.str "hemp")) aNil))))))))) (eCall 2 g__law_draw (aCons (eVar 0) (aCons (eC (.int 6)) aNil)) [])) (eTup (aCons (eVar 3) (aCons (eVar 4) aNil)))))))
    (sRet (eCall1 hTuple (hE (eFrz (nComp (iE (eFrz (nCall1 nSorted (hOwn 1)))) (gNm 5) pYes (eOp hAdd (eTup (aCons (eVar 5) aNil)) (eOpH (hIx true) (hOwn 1) (eVar 5))) [5])))))))
def g__law_grade : DS := runDef0 6 b__law_grade
theorem safe__law_grade : Safe g__law_grade := safe_run0
theorem sc__law_grade : FnScope ["tape", "found", "k", "low", "high", "pulp"] ["tape"] (defScope s__law_grade) := ⟨rfl, rfl, rfl, by decide +kernel, rfl, by decide +kernel, by decide +kernel⟩
theorem ok__law_grade {P : Program} {w : World} {K : PySem.W.Frag} {mg : Str → Option Value} {base : Heap} (T : Tx K mg) : FnOk P w K mg base CX0 2 T.a__law_grade T.d__law_grade ["tape"] (spG ⟨K, mg, true⟩ 1 g__law_grade) :=
  T.F__law_grade.ok (k := 1) sc__law_grade (spG_len (ps := ["tape"])) fun cdv A outer s H vs Q E hr h => def_run (kt := true) (N := ["tape", "found", "k", "low", "high", "pulp"]) h fun c hc =>
  (ess_cons (es_own (i := 1) sc__law_grade.nd (by rfl) (by first | exact Or.inl rfl | exact Or.inr rfl) nv_dk)
    (ess_cons (es_for .never (by rfl) (iv_range1 (by rfl) T.z_range (ev_add ev_int (ev_cl hc (ok__law_draw T) safe__law_draw (hr.mono (by decide)) (by rfl) T.m__law_draw T.k__law_draw T.b__law_draw (av_cons (vr 0) (av_cons ev_int av_nil))))) (gv_nm (i := 2) sc__law_grade.nd (by rfl) (by first | exact Or.inl rfl | exact Or.inr rfl)) (ess_cons (es_set (i := 3) sc__law_grade.nd (by rfl) (by first | exact Or.inl rfl | exact Or.inr rfl) (ev_ix (hu1 hr) hc (hv_e (ev_frz (nv_lst (av_cons ev_int (av_cons ev_int (av_cons ev_int (av_cons ev_int (av_cons (ev_cl hc (ok__law_draw T) safe__law_draw (hr.mono (by decide)) (by rfl) T.m__law_draw T.k__law_draw T.b__law_draw (av_cons (vr 0) (av_cons ev_int av_nil))) av_nil)))))))) (ev_cl hc (ok__law_draw T) safe__law_draw (hr.mono (by decide)) (by rfl) T.m__law_draw T.k__law_draw T.b__law_draw (av_cons (vr 0) (av_cons ev_int av_nil)))))
    (ess_cons (es_set (i := 4) sc__law_grade.nd (by rfl) (by first | exact Or.inl rfl | exact Or.inr rfl) (ev_ix (hu1 hr) hc (hv_e (ev_frz (nv_lst (av_cons ev_int (av_cons ev_int (av_cons (vr 3) (av_cons (ev_max2 (by rfl) (by rfl) T.z_max (vr 3) ev_int) (av_cons (ev_add (vr 3) (ev_cl hc (ok__law_draw T) safe__law_draw (hr.mono (by decide)) (by rfl) T.m__law_draw T.k__law_draw T.b__law_draw (av_cons (vr 0) (av_cons (ev_sub ev_int (vr 3)) av_nil)))) av_nil)))))))) (ev_cl hc (ok__law_draw T) safe__law_draw (hr.mono (by decide)) (by rfl) T.m__law_draw T.k__law_draw T.b__law_draw (av_cons (vr 0) (av_cons ev_int av_nil)))))
    (ess_one (es_putO (i := 1) (hu1 hr) hc (by rfl) (by first | exact Or.inl rfl | exact Or.inr (Or.inl rfl) | exact Or.inr (Or.inr rfl)) (ev_ix (hu1 hr) hc (hv_e (ev_frz (nv_lst (av_cons ev_str (av_cons ev_str (av_cons ev_str (av_cons ev_str (av_cons ev_str (av_cons ev_str av_nil))))))))) (ev_cl hc (ok__law_draw T) safe__law_draw (hr.mono (by decide)) (by rfl) T.m__law_draw T.k__law_draw T.b__law_draw (av_cons (vr 0) (av_cons ev_int av_nil)))) (ev_tup (av_cons (vr 3) (av_cons (vr 4) av_nil))))))))
    (ess_one (es_ret (ev_tuple (by rfl) T.z_tuple (hv_e (ev_frz (nv_lc (by rfl) sc__law_grade.nd (own := ([("pulp", 5)] : List (Str × Nat))) (iv_e (ev_frz (nv_sorted (by rfl) (by rfl) T.z_sorted (vo 1)))) (blkOk_by (N := ["tape", "found", "k", "low", "high", "pulp"]) (sc := defScope s__law_grade) (by decide +kernel)) (fun _ _ _ _ _ => (gv_nm (i := 5) sc__law_grade.nd (by rfl) (by first | exact Or.inl rfl | exact Or.inr rfl))) (fun _ _ _ _ _ => tvs_nil) (fun _ _ _ _ _ => (ev_add (ev_tup (av_cons (vr 5) av_nil)) (ev_ix (hu1 hr) hc (vo 1) (vr 5))))))))))))
/-! ### _law_lets -/
def b__law_lets : SF :=
  (sSeq (sSet 2 (eCall 1 g__law_total (aCons (eVar 1) aNil) []))
    (sSeq (sSet 3 (eFrz (nCall1 (nDict true) (hE (eVar 1)))))
    (sSeq (sSet 5 (eFrz (nComp (iE (eVar 0)) (gNm 4) pYes (eOpH (hIx true) (hE (eVar 4)) (eC (.int 0))) [4])))
    (sSeq (sIf (bOr (bB (eOp hEq (eVar 1) (eTup aNil))) (bB (eOp hNe (eFrz (nComp (iDk (eVar 3)) (gNm 6) (bB (eOpH' (hNotIn true) (eVar 6) (hE (eVar 5)))) (eVar 6) [6])) (eFrz (nLst aNil))))) (sRet (eC (.bl false))) sNx)
    (sSeq (sFor (iE (eVar 0)) (gTp (gCns (gNm 6) (gCns (gNm 7) (gCns (gNm 8) gNls)))) (sSeq (sSet 9 (eGet true (hE (eVar 3)) (eVar 6) (eTup (aCons (eC (.int 0)) (aCons (eC (.int 1)) aNil)))))
    (sSeq (sIf (bB (eCall 2 g__law_below (aCons (eTup (aCons (eOp hMulI (eC (.int 100)) (eOpH (hIx true) (hE (eVar 9)) (eC (.int 0)))) (aCons (eOpH (hIx true) (hE (eVar 9)) (eC (.int 1))) aNil))) (aCons (eCall 2 g__law_part (aCons (eVar 2) (aCons (eTup (aCons (eVar 7) (aCons (eC (.int 1)) aNil))) aNil)) []) aNil)) [])) (sRet (eC (.bl false))) sNx)
    (sIf (bB (eCall 2 g__law_below (aCons (eCall 2 g__law_part (aCons (eVar 2) (aCons (eTup (aCons (eVar 8) (aCons (eC (.int 1)) aNil))) aNil)) []) (aCons (eTup (aCons (eOp hMulI (eC (.int 100)) (eOpH (hIx true) (hE (eVar 9)) (eC (.int 0)))) (aCons (eOpH (hIx true) (hE (eVar 9)) (eC (.int 1))) aNil))) aNil)) [])) (sRet (eC (.bl false))) sNx))))
    (sRet (eC (.bl true))))))))
def g__law_lets : DS := runDef0 10 b__law_lets
theorem safe__law_lets : Safe g__law_lets := safe_run0
theorem sc__law_lets : FnScope ["grade", "mixture", "total", "told", "row", "known", "pulp", "low", "high", "amount"] ["grade", "mixture"] (defScope s__law_lets) := ⟨rfl, rfl, rfl, by decide +kernel, rfl, by decide +kernel, by decide +kernel⟩
theorem ok__law_lets {P : Program} {w : World} {K : PySem.W.Frag} {mg : Str → Option Value} {base : Heap} (T : Tx K mg) : FnOk P w K mg base CX0 5 T.a__law_lets T.d__law_lets ["grade", "mixture"] (spG ⟨K, mg, true⟩ 2 g__law_lets) :=
  T.F__law_lets.ok (k := 4) sc__law_lets (spG_len (ps := ["grade", "mixture"])) fun cdv A outer s H vs Q E hr h => def_run (kt := true) (N := ["grade", "mixture", "total", "told", "row", "known", "pulp", "low", "high", "amount"]) h fun c hc =>
  (ess_cons (es_set (i := 2) sc__law_lets.nd (by rfl) (by first | exact Or.inl rfl | exact Or.inr rfl) (ev_cl hc (ok__law_total T) safe__law_total (hr.mono (by decide)) (by rfl) T.m__law_total T.k__law_total T.b__law_total (av_cons (vr 1) av_nil)))
    (ess_cons (es_set (i := 3) sc__law_lets.nd (by rfl) (by first | exact Or.inl rfl | exact Or.inr rfl) (ev_frz (nv_dict (by rfl) hc (by rfl) T.z_dict (vh 1))))
    (ess_cons (es_set (i := 5) sc__law_lets.nd (by rfl) (by first | exact Or.inl rfl | exact Or.inr rfl) (ev_frz (nv_lc (by rfl) sc__law_lets.nd (own := ([("row", 4)] : List (Str × Nat))) (iv_e (vr 0)) (blkOk_by (N := ["grade", "mixture", "total", "told", "row", "known", "pulp", "low", "high", "amount"]) (sc := defScope s__law_lets) (by decide +kernel)) (fun _ _ _ _ _ => (gv_nm (i := 4) sc__law_lets.nd (by rfl) (by first | exact Or.inl rfl | exact Or.inr rfl))) (fun _ _ _ _ _ => tvs_nil) (fun _ _ _ _ _ => (ev_ix (hu1 hr) hc (vh 4) ev_int)))))
    (ess_cons (es_if (tv_w (wv_or (tv_eq (hu64 hr) (vr 1) (ev_tup av_nil)) (wv_or1 (tv_ne (hu64 hr) (ev_frz (nv_lc (by rfl) sc__law_lets.nd (own := ([("pulp", 6)] : List (Str × Nat))) (iv_dk (vr 3)) (blkOk_by (N := ["grade", "mixture", "total", "told", "row", "known", "pulp", "low", "high", "amount"]) (sc := defScope s__law_lets) (by decide +kernel)) (fun _ _ _ _ _ => (gv_nm (i := 6) sc__law_lets.nd (by rfl) (by first | exact Or.inl rfl | exact Or.inr rfl))) (fun _ _ _ _ _ => (tvs_one (tv_notIn (hu65 hr) hc (vr 6) (vh 5)))) (fun _ _ _ _ _ => (vr 6)))) (ev_frz (nv_lst av_nil)))))) (ess_one (es_ret ev_bl)) ess_nil)
    (ess_cons (es_for .never (by rfl) (iv_e (vr 0)) (gv_tp (by rfl) (gvs_cons (gv_nm (i := 6) sc__law_lets.nd (by rfl) (by first | exact Or.inl rfl | exact Or.inr rfl)) (gvs_cons (gv_nm (i := 7) sc__law_lets.nd (by rfl) (by first | exact Or.inl rfl | exact Or.inr rfl)) (gvs_cons (gv_nm (i := 8) sc__law_lets.nd (by rfl) (by first | exact Or.inl rfl | exact Or.inr rfl)) gvs_nil))) (by rfl) (by rfl) (gl_cons (gl_cons (gl_cons gl_nil)))) (ess_cons (es_set (i := 9) sc__law_lets.nd (by rfl) (by first | exact Or.inl rfl | exact Or.inr rfl) (ev_get (hu1 hr) hc (vh 3) (vr 6) (ev_tup (av_cons ev_int (av_cons ev_int av_nil)))))
    (ess_cons (es_if (tv_e (ev_cl hc (ok__law_below T) safe__law_below (hr.mono (by decide)) (by rfl) T.m__law_below T.k__law_below T.b__law_below (av_cons (ev_tup (av_cons (ev_mul ev_int (ev_ix (hu1 hr) hc (vh 9) ev_int)) (av_cons (ev_ix (hu1 hr) hc (vh 9) ev_int) av_nil))) (av_cons (ev_cl hc (ok__law_part T) safe__law_part (hr.mono (by decide)) (by rfl) T.m__law_part T.k__law_part T.b__law_part (av_cons (vr 2) (av_cons (ev_tup (av_cons (vr 7) (av_cons ev_int av_nil))) av_nil))) av_nil)))) (ess_one (es_ret ev_bl)) ess_nil)
    (ess_one (es_if (tv_e (ev_cl hc (ok__law_below T) safe__law_below (hr.mono (by decide)) (by rfl) T.m__law_below T.k__law_below T.b__law_below (av_cons (ev_cl hc (ok__law_part T) safe__law_part (hr.mono (by decide)) (by rfl) T.m__law_part T.k__law_part T.b__law_part (av_cons (vr 2) (av_cons (ev_tup (av_cons (vr 8) (av_cons ev_int av_nil))) av_nil))) (av_cons (ev_tup (av_cons (ev_mul ev_int (ev_ix (hu1 hr) hc (vh 9) ev_int)) (av_cons (ev_ix (hu1 hr) hc (vh 9) ev_int) av_nil))) av_nil)))) (ess_one (es_ret ev_bl)) ess_nil)))))
    (ess_one (es_ret ev_bl)))))))
/-! ### _law_mixed -/
def b__law_mixed : SF :=
  (sSeq (sOwn 3 (nLst aNil))
    (sSeq (sFor (iE (eFrz (nLst (aCons (eTup (aCons (eVar 0) (aCons (eVar 2) aNil))) (aCons (eTup (aCons (eVar 1) (aCons (eCall 2 g__law_frac (aCons (eOp hSub (eOpH (hIx true) (hE (eVar 2)) (eC (.int 1))) (eOpH (hIx true) (hE (eVar 2)) (eC (.int 0)))) (aCons (eOpH (hIx true) (hE (eVar 2)) (eC (.int 1))) aNil)) []) aNil))) aNil))))) (gTp (gCns (gNm 4) (gCns (gNm 5) gNls))) (sSeq (sSet 6 (eCall 1 g__law_total (aCons (eVar 4) aNil) []))
    (sOwnM mAppend 3 (aCons (eCall 2 g__law_share_of (aCons (eVar 4) (aCons (eCall 2 g__law_frac (aCons (eOp hMulI (eOpH (hIx true) (hE (eVar 5)) (eC (.int 0))) (eOpH (hIx true) (hE (eVar 6)) (eC (.int 1)))) (aCons (eOp hMulI (eOpH (hIx true) (hE (eVar 5)) (eC (.int 1))) (eOpH (hIx true) (hE (eVar 6)) (eC (.int 0)))) aNil)) []) aNil)) []) aNil))))
    (sRet (eCall 2 g__law_together (aCons (eOpH (hIx true) (hOwn 3) (eC (.int 0))) (aCons (eOpH (hIx true) (hOwn 3) (eC (.int 1))) aNil)) []))))
def g__law_mixed : DS := runDef0 7 b__law_mixed
theorem safe__law_mixed : Safe g__law_mixed := safe_run0
theorem sc__law_mixed : FnScope ["one", "other", "share", "parts", "lot", "much", "whole"] ["one", "other", "share"] (defScope s__law_mixed) := ⟨rfl, rfl, rfl, by decide +kernel, rfl, by decide +kernel, by decide +kernel⟩
theorem ok__law_mixed {P : Program} {w : World} {K : PySem.W.Frag} {mg : Str → Option Value} {base : Heap} (T : Tx K mg) : FnOk P w K mg base CX0 5 T.a__law_mixed T.d__law_mixed ["one", "other", "share"] (spG ⟨K, mg, true⟩ 3 g__law_mixed) :=
  T.F__law_mixed.ok (k := 4) sc__law_mixed (spG_len (ps := ["one", "other", "share"])) fun cdv A outer s H vs Q E hr h => def_run (kt := true) (N := ["one", "other", "share", "parts", "lot", "much", "whole"]) h fun c hc =>
  (ess_cons (es_own (i := 3) sc__law_mixed.nd (by rfl) (by first | exact Or.inl rfl | exact Or.inr rfl) (nv_lst av_nil))
    (ess_cons (es_for .never (by rfl) (iv_e (ev_frz (nv_lst (av_cons (ev_tup (av_cons (vr 0) (av_cons (vr 2) av_nil))) (av_cons (ev_tup (av_cons (vr 1) (av_cons (ev_cl hc (ok__law_frac T) safe__law_frac (hr.mono (by decide)) (by rfl) T.m__law_frac T.k__law_frac T.b__law_frac (av_cons (ev_sub (ev_ix (hu1 hr) hc (vh 2) ev_int) (ev_ix (hu1 hr) hc (vh 2) ev_int)) (av_cons (ev_ix (hu1 hr) hc (vh 2) ev_int) av_nil))) av_nil))) av_nil))))) (gv_tp (by rfl) (gvs_cons (gv_nm (i := 4) sc__law_mixed.nd (by rfl) (by first | exact Or.inl rfl | exact Or.inr rfl)) (gvs_cons (gv_nm (i := 5) sc__law_mixed.nd (by rfl) (by first | exact Or.inl rfl | exact Or.inr rfl)) gvs_nil)) (by rfl) (by rfl) (gl_cons (gl_cons gl_nil))) (ess_cons (es_set (i := 6) sc__law_mixed.nd (by rfl) (by first | exact Or.inl rfl | exact Or.inr rfl) (ev_cl hc (ok__law_total T) safe__law_total (hr.mono (by decide)) (by rfl) T.m__law_total T.k__law_total T.b__law_total (av_cons (vr 4) av_nil)))
    (ess_one (es_append (i := 3) (by rfl) (by first | exact Or.inl rfl | exact Or.inr (Or.inl rfl) | exact Or.inr (Or.inr rfl)) (ev_cl hc (ok__law_share_of T) safe__law_share_of (hr.mono (by decide)) (by rfl) T.m__law_share_of T.k__law_share_of T.b__law_share_of (av_cons (vr 4) (av_cons (ev_cl hc (ok__law_frac T) safe__law_frac (hr.mono (by decide)) (by rfl) T.m__law_frac T.k__law_frac T.b__law_frac (av_cons (ev_mul (ev_ix (hu1 hr) hc (vh 5) ev_int) (ev_ix (hu1 hr) hc (vh 6) ev_int)) (av_cons (ev_mul (ev_ix (hu1 hr) hc (vh 5) ev_int) (ev_ix (hu1 hr) hc (vh 6) ev_int)) av_nil))) av_nil)))))))
    (ess_one (es_ret (ev_cl hc (ok__law_together T) safe__law_together (hr.mono (by decide)) (by rfl) T.m__law_together T.k__law_together T.b__law_together (av_cons (ev_ix (hu1 hr) hc (vo 3) ev_int) (av_cons (ev_ix (hu1 hr) hc (vo 3) ev_int) av_nil)))))))
/-! ### _law_turned -/
def b__law_turned : SF :=
  (sRet (eCall 2 g__law_frac (aCons (eOp hSub (eOpH (hIx true) (hE (eVar 0)) (eC (.int 1))) (eOpH (hIx true) (hE (eVar 0)) (eC (.int 0)))) (aCons (eOpH (hIx true) (hE (eVar 0)) (eC (.int 1))) aNil)) []))
def g__law_turned : DS := runDef0 1 b__law_turned
theorem safe__law_turned : Safe g__law_turned := safe_run0
theorem sc__law_turned : FnScope ["share"] ["share"] (defScope s__law_turned) := ⟨rfl, rfl, rfl, by decide +kernel, rfl, by decide +kernel, by decide +kernel⟩
theorem ok__law_turned {P : Program} {w : World} {K : PySem.W.Frag} {mg : Str → Option Value} {base : Heap} (T : Tx K mg) : FnOk P w K mg base CX0 3 T.a__law_turned T.d__law_turned ["share"] (spG ⟨K, mg, true⟩ 1 g__law_turned) :=
  T.F__law_turned.ok (k := 2) sc__law_turned (spG_len (ps := ["share"])) fun cdv A outer s H vs Q E hr h => def_run (kt := true) (N := ["share"]) h fun c hc =>
  (ess_one (es_ret (ev_cl hc (ok__law_frac T) safe__law_frac (hr.mono (by decide)) (by rfl) T.m__law_frac T.k__law_frac T.b__law_frac (av_cons (ev_sub (ev_ix (hu1 hr) hc (vh 0) ev_int) (ev_ix (hu1 hr) hc (vh 0) ev_int)) (av_cons (ev_ix (hu1 hr) hc (vh 0) ev_int) av_nil)))))
/-! ### _law_ends_right -/
def b__law_ends_right : SF :=
  (sSeq (sAsg (eTup (aCons (eTup (aCons (eTup (aCons (eC (.str "a")) (aCons (eTup (aCons (eC (.int 1)) (aCons (eC (.int 1)) aNil))) aNil))) aNil)) (aCons (eTup (aCons (eTup (aCons (eC (.str "b")) (aCons (eTup (aCons (eC (.int 1)) (aCons (eC (.int 1)) aNil))) aNil))) aNil)) aNil))) (gTp (gCns (gNm 0) (gCns (gNm 1) gNls))))
    (sSeq (sOwn 2 (nLst (aCons (eCall 3 g_between (aCons (eTup (aCons (eTup (aCons (eC (.str "a")) (aCons (eC (.int 25)) (aCons (eC (.int 25)) aNil)))) (aCons (eTup (aCons (eC (.str "b")) (aCons (eC (.int 0)) (aCons (eC (.int 100)) aNil)))) aNil))) (aCons (eVar 0) (aCons (eVar 1) aNil))) []) (aCons (eCall 3 g_between (aCons (eTup (aCons (eTup (aCons (eC (.str "a")) (aCons (eC (.int 0)) (aCons (eC (.int 100)) aNil)))) (aCons (eTup (aCons (eC (.str "c")) (aCons (eC (.int 1)) (aCons (eC (.int 100)) aNil)))) aNil))) (aCons (eVar 0) (aCons (eVar 0) aNil))) []) aNil))))
    (sSeq (sOwnM mAppend 2 (aCons (eCall 3 g_between (aCons (eTup (aCons (eTup (aCons (eC (.str "a")) (aCons (eC (.int 0)) (aCons (eC (.int 100)) aNil)))) (aCons (eTup (aCons (eC (.str "b")) (aCons (eC (.int 0)) (aCons (eC (.int 100)) aNil)))) aNil))) (aCons (eVar 0) (aCons (eVar 1) aNil))) []) aNil))
    (sFrz 2 (sSeq (sOwn 2 (nAdd (eVar 2) (eFrz (nLst (aCons (eCall 3 g_between (aCons (eTup (aCons (eTup (aCons (eC (.str "b")) (aCons (eC (.int 0)) (aCons (eC (.int 100)) aNil)))) aNil)) (aCons (eVar 0) (aCons (eVar 1) aNil))) []) (aCons (eCall 3 g_between (aCons (eTup (aCons (eTup (aCons (eC (.str "a")) (aCons (eC (.int 30)) (aCons (eC (.int 60)) aNil)))) (aCons (eTup (aCons (eC (.str "b")) (aCons (eC (.int 20)) (aCons (eC (.int 50)) aNil)))) aNil))) (aCons (eVar 0) (aCons (eVar 1) aNil))) []) aNil))))))
    (sSeq (sSet 3 (eFrz (nLst (aCons (eTup (aCons (eTup (aCons (eC (.int 1)) (aCons (eC (.int 4)) aNil))) (aCons (eTup (aCons (eC (.int 1)) (aCons (eC (.int 4)) aNil))) aNil))) (aCons (eC .non) (aCons (eTup (aCons (eTup (aCons (eC (.int 0)) (aCons (eC (.int 1)) aNil))) (aCons (eTup (aCons (eC (.int 1)) (aCons (eC (.int 1)) aNil))) aNil))) (aCons (eTup (aCons (eTup (aCons (eC (.int 0)) (aCons (eC (.int 1)) aNil))) (aCons (eTup (aCons (eC (.int 0)) (aCons (eC (.int 1)) aNil))) aNil))) (aCons (eTup (aCons (eTup (aCons (eC (.int 1)) (aCons (eC (.int 2)) aNil))) (aCons (eTup (aCons (eC (.int 3)) (aCons (eC (.int 5)) aNil))) aNil))) aNil))))))))
    (sFrz 2 (sRet (eCall 2 (g__law_like 6) (aCons (eVar 2) (aCons (eVar 3) aNil)) [])))))))))
def g__law_ends_right : DS := runDef0 4 b__law_ends_right
theorem safe__law_ends_right : Safe g__law_ends_right := safe_run0
theorem sc__law_ends_right : FnScope ["one", "other", "told", "my_wanted"] [] (defScope s__law_ends_right) := ⟨rfl, rfl, rfl, by decide +kernel, rfl, by decide +kernel, by decide +kernel⟩
theorem ok__law_ends_right {P : Program} {w : World} {K : PySem.W.Frag} {mg : Str → Option Value} {base : Heap} (T : Tx K mg) : FnOk P w K mg base CX0 8 T.a__law_ends_right T.d__law_ends_right [] (spG ⟨K, mg, true⟩ 0 g__law_ends_right) :=
  T.F__law_ends_right.ok (k := 7) sc__law_ends_right (spG_len (ps := [])) fun cdv A outer s H vs Q E hr h => def_run (kt := true) (N := ["one", "other", "told", "my_wanted"]) h fun c hc =>
  (ess_cons (es_asg (ev_tup (av_cons (ev_tup (av_cons (ev_tup (av_cons ev_str (av_cons (ev_tup (av_cons ev_int (av_cons ev_int av_nil))) av_nil))) av_nil)) (av_cons (ev_tup (av_cons (ev_tup (av_cons ev_str (av_cons (ev_tup (av_cons ev_int (av_cons ev_int av_nil))) av_nil))) av_nil)) av_nil))) (gv_tp (by rfl) (gvs_cons (gv_nm (i := 0) sc__law_ends_right.nd (by rfl) (by first | exact Or.inl rfl | exact Or.inr rfl)) (gvs_cons (gv_nm (i := 1) sc__law_ends_right.nd (by rfl) (by first | exact Or.inl rfl | exact Or.inr rfl)) gvs_nil)) (by rfl) (by rfl) (gl_cons (gl_cons gl_nil))))
    (ess_cons (es_own (i := 2) sc__law_ends_right.nd (by rfl) (by first | exact Or.inl rfl | exact Or.inr rfl) (nv_lst (av_cons (ev_cl hc (ok_between T) safe_between (hr.mono (by decide)) (by rfl) T.m_between T.k_between T.b_between (av_cons (ev_tup (av_cons (ev_tup (av_cons ev_str (av_cons ev_int (av_cons ev_int av_nil)))) (av_cons (ev_tup (av_cons ev_str (av_cons ev_int (av_cons ev_int av_nil)))) av_nil))) (av_cons (vr 0) (av_cons (vr 1) av_nil)))) (av_cons (ev_cl hc (ok_between T) safe_between (hr.mono (by decide)) (by rfl) T.m_between T.k_between T.b_between (av_cons (ev_tup (av_cons (ev_tup (av_cons ev_str (av_cons ev_int (av_cons ev_int av_nil)))) (av_cons (ev_tup (av_cons ev_str (av_cons ev_int (av_cons ev_int av_nil)))) av_nil))) (av_cons (vr 0) (av_cons (vr 0) av_nil)))) av_nil))))
    (ess_cons (es_append (i := 2) (by rfl) (by first | exact Or.inl rfl | exact Or.inr (Or.inl rfl) | exact Or.inr (Or.inr rfl)) (ev_cl hc (ok_between T) safe_between (hr.mono (by decide)) (by rfl) T.m_between T.k_between T.b_between (av_cons (ev_tup (av_cons (ev_tup (av_cons ev_str (av_cons ev_int (av_cons ev_int av_nil)))) (av_cons (ev_tup (av_cons ev_str (av_cons ev_int (av_cons ev_int av_nil)))) av_nil))) (av_cons (vr 0) (av_cons (vr 1) av_nil)))))
    (ess_frz 2 (ess_cons (es_own (i := 2) sc__law_ends_right.nd (by rfl) (by first | exact Or.inl rfl | exact Or.inr rfl) (nv_add (vr 2) (ev_frz (nv_lst (av_cons (ev_cl hc (ok_between T) safe_between (hr.mono (by decide)) (by rfl) T.m_between T.k_between T.b_between (av_cons (ev_tup (av_cons (ev_tup (av_cons ev_str (av_cons ev_int (av_cons ev_int av_nil)))) av_nil)) (av_cons (vr 0) (av_cons (vr 1) av_nil)))) (av_cons (ev_cl hc (ok_between T) safe_between (hr.mono (by decide)) (by rfl) T.m_between T.k_between T.b_between (av_cons (ev_tup (av_cons (ev_tup (av_cons ev_str (av_cons ev_int (av_cons ev_int av_nil)))) (av_cons (ev_tup (av_cons ev_str (av_cons ev_int (av_cons ev_int av_nil)))) av_nil))) (av_cons (vr 0) (av_cons (vr 1) av_nil)))) av_nil))))))
    (ess_cons (es_set (i := 3) sc__law_ends_right.nd (by rfl) (by first | exact Or.inl rfl | exact Or.inr rfl) (ev_frz (nv_lst (av_cons (ev_tup (av_cons (ev_tup (av_cons ev_int (av_cons ev_int av_nil))) (av_cons (ev_tup (av_cons ev_int (av_cons ev_int av_nil))) av_nil))) (av_cons ev_non (av_cons (ev_tup (av_cons (ev_tup (av_cons ev_int (av_cons ev_int av_nil))) (av_cons (ev_tup (av_cons ev_int (av_cons ev_int av_nil))) av_nil))) (av_cons (ev_tup (av_cons (ev_tup (av_cons ev_int (av_cons ev_int av_nil))) (av_cons (ev_tup (av_cons ev_int (av_cons ev_int av_nil))) av_nil))) (av_cons (ev_tup (av_cons (ev_tup (av_cons ev_int (av_cons ev_int av_nil))) (av_cons (ev_tup (av_cons ev_int (av_cons ev_int av_nil))) av_nil))) av_nil))))))))
    (ess_frz 2 (ess_one (es_ret (ev_cl hc (ok__law_like T 6) (safe__law_like _) (hr.mono (by decide)) (by rfl) T.m__law_like T.k__law_like T.b__law_like (av_cons (vr 2) (av_cons (vr 3) av_nil))))))))))))
/-! ### law -/
def b_law : SF :=
  (sSeq (sSet 1 (eNew (nLst (aCons (eFrz (nCall1 nList (hE (eVar 0)))) (aCons (eC (.int 0)) (aCons (eC (.int 0)) aNil))))))
    (sSeq (sIf (bNot (bB (eCall 0 g__law_ends_right aNil []))) (sRet (eC (.bl false))) sNx)
    (sSeq (sFor (iRg1 (eC (.int 6))) (gNm 2) (sSeq (sSet 3 (eCall 1 g__law_grade (aCons (eVar 1) aNil) []))
    (sSeq (sAsg (eFrz (nComp (iRg1 (eC (.int 2))) (gNm 4) pYes (eOrV (eCall 2 g__law_mixture (aCons (eVar 1) (aCons (eC (.int 4)) aNil)) []) (eTup (aCons (eTup (aCons (eC (.str "a")) (aCons (eTup (aCons (eC (.int 1)) (aCons (eC (.int 1)) aNil))) aNil))) aNil))) [4])) (gLs (gCns (gNm 5) (gCns (gNm 6) gNls))))
    (sSeq (sSet 7 (eCall 3 g_between (aCons (eVar 3) (aCons (eVar 5) (aCons (eVar 6) aNil))) []))
    (sSeq (sSet 8 (eOp hAdd (eFrz (nLst (aCons (eTup (aCons (eC (.int 0)) (aCons (eC (.int 1)) aNil))) (aCons (eTup (aCons (eC (.int 1)) (aCons (eC (.int 1)) aNil))) (aCons (eTup (aCons (eC (.int 1)) (aCons (eC (.int 2)) aNil))) aNil))))) (eFrz (nComp (iRg1 (eC (.int 8))) (gNm 4) pYes (eCall 2 g__law_frac (aCons (eCall 2 g__law_draw (aCons (eVar 1) (aCons (eC (.int 101)) aNil)) []) (aCons (eC (.int 100)) aNil)) []) [4]))))
    (sSeq (sIf (bB (eOp hIsNot (eVar 7) (eC .non))) (sSeq (sAsg (eVar 7) (gTp (gCns (gNm 9) (gCns (gNm 10) gNls))))
    (sSeq (sIf (bOr (bB (eCall 2 g__law_below (aCons (eVar 10) (aCons (eVar 9) aNil)) [])) (bOr (bB (eCall 2 g__law_below (aCons (eVar 9) (aCons (eTup (aCons (eC (.int 0)) (aCons (eC (.int 1)) aNil))) aNil)) [])) (bB (eCall 2 g__law_below (aCons (eTup (aCons (eC (.int 1)) (aCons (eC (.int 1)) aNil))) (aCons (eVar 10) aNil)) [])))) (sRet (eC (.bl false))) sNx)
    (sSeq (sSet 11 (eCall 2 g__law_part (aCons (eCall 2 g__law_sum (aCons (eVar 9) (aCons (eVar 10) aNil)) []) (aCons (eTup (aCons (eC (.int 1)) (aCons (eC (.int 2)) aNil))) aNil)) []))
    (sSeq (sSet 8 (eOp hAdd (eVar 8) (eFrz (nLst (aCons (eVar 9) (aCons (eVar 10) (aCons (eVar 11) aNil)))))))
    (sSet 8 (eOp hAdd (eVar 8) (eFrz (nLst (aCons (eCall 2 g__law_sum (aCons (eVar 9) (aCons (eTup (aCons (eNeg (eC (.int 1))) (aCons (eOp hPow (eC (.int 10)) (eC (.int 6))) aNil))) aNil)) []) (aCons (eCall 2 g__law_sum (aCons (eVar 10) (aCons (eTup (aCons (eC (.int 1)) (aCons (eOp hPow (eC (.int 10)) (eC (.int 6))) aNil))) aNil)) []) aNil)))))))))) sNx)
    (sSeq (sFor (iE (eVar 8)) (gNm 12) (sSeq (sIf (bOr (bB (eCall 2 g__law_below (aCons (eVar 12) (aCons (eTup (aCons (eC (.int 0)) (aCons (eC (.int 1)) aNil))) aNil)) [])) (bB (eCall 2 g__law_below (aCons (eTup (aCons (eC (.int 1)) (aCons (eC (.int 1)) aNil))) (aCons (eVar 12) aNil)) []))) sCt sNx)
    (sSeq (sSet 13 (eAnd (eOp hIsNot (eVar 7) (eC .non)) (eAnd (eNot (eCall 2 g__law_below (aCons (eVar 12) (aCons (eOpH (hIx true) (hE (eVar 7)) (eC (.int 0))) aNil)) [])) (eNot (eCall 2 g__law_below (aCons (eOpH (hIx true) (hE (eVar 7)) (eC (.int 1))) (aCons (eVar 12) aNil)) [])))))
    (sIf (bB (eOp hNe (eCall 2 g__law_lets (aCons (eVar 3) (aCons (eCall 3 g__law_mixed (aCons (eVar 5) (aCons (eVar 6) (aCons (eVar 12) aNil))) []) aNil)) []) (eVar 13))) (sRet (eC (.bl false))) sNx))))
    (sSeq (sSet 14 (eCall 3 g_between (aCons (eVar 3) (aCons (eVar 6) (aCons (eVar 5) aNil))) []))
    (sSeq (sIf (bB (eOp hNe (eVar 14) (eIf (bB (eOp hIs (eVar 7) (eC .non))) (eC .non) (eTup (aCons (eCall 1 g__law_turned (aCons (eOpH (hIx true) (hE (eVar 7)) (eC (.int 1))) aNil) []) (aCons (eCall 1 g__law_turned (aCons (eOpH (hIx true) (hE (eVar 7)) (eC (.int 0))) aNil) []) aNil)))))) (sRet (eC (.bl false))) sNx)
    (sIf (bB (eOp hNe (eCall 3 g_between (aCons (eVar 3) (aCons (eVar 5) (aCons (eVar 5) aNil))) []) (eIf (bB (eCall 2 g__law_lets (aCons (eVar 3) (aCons (eVar 5) aNil)) [])) (eTup (aCons (eTup (aCons (eC (.int 0)) (aCons (eC (.int 1)) aNil))) (aCons (eTup (aCons (eC (.int 1)) (aCons (eC (.int 1)) aNil))) aNil))) (eC .non)))) (sRet (eC (.bl false))) sNx))))))))))
    (sRet (eC (.bl true))))))
def g_law : DS := runDef0 15 b_law
theorem safe_law : Safe g_law := safe_run0
theorem sc_law : FnScope ["script", "tape", "turn", "grade", "k", "one", "other", "told", "my_shares", "least", "greatest", "middle", "share", "good", "turned"] ["script"] (defScope s_law) := ⟨rfl, rfl, rfl, by decide +kernel, rfl, by decide +kernel, by decide +kernel⟩
theorem ok_law {P : Program} {w : World} {K : PySem.W.Frag} {mg : Str → Option Value} {base : Heap} (T : Tx K mg) : FnOk P w K mg base CX0 9 T.a_law T.d_law ["script"] (spG ⟨K, mg, true⟩ 1 g_law) :=
  T.F_law.ok (k := 8) sc_law (spG_len (ps := ["script"])) fun cdv A outer s H vs Q E hr h => def_run (kt := true) (N := ["script", "tape", "turn", "grade", "k", "one", "other", "told", "my_shares", "least", "greatest", "middle", "share", "good", "turned"]) h fun c hc =>
  (ess_cons (es_set (i := 1) sc_law.nd (by rfl) (by first | exact Or.inl rfl | exact Or.inr rfl) (ev_new (nv_lst (av_cons (ev_frz (nv_list (by rfl) (by rfl) T.z_list (vh 0))) (av_cons ev_int (av_cons ev_int av_nil))))))
    (ess_cons (es_if (tv_not (tv_e (ev_cl0 hc (ok__law_ends_right T) safe__law_ends_right (hr.mono (by decide)) (by rfl) T.m__law_ends_right T.k__law_ends_right T.b__law_ends_right))) (ess_one (es_ret ev_bl)) ess_nil)
    (ess_cons (es_for .never (by rfl) (iv_range1 (by rfl) T.z_range ev_int) (gv_nm (i := 2) sc_law.nd (by rfl) (by first | exact Or.inl rfl | exact Or.inr rfl)) (ess_cons (es_set (i := 3) sc_law.nd (by rfl) (by first | exact Or.inl rfl | exact Or.inr rfl) (ev_cl hc (ok__law_grade T) safe__law_grade (hr.mono (by decide)) (by rfl) T.m__law_grade T.k__law_grade T.b__law_grade (av_cons (vr 1) av_nil)))
    (ess_cons (es_asg (ev_frz (nv_lc (by rfl) sc_law.nd (own := ([("k", 4)] : List (Str × Nat))) (iv_range1 (by rfl) T.z_range ev_int) (blkOk_by (N := ["script", "tape", "turn", "grade", "k", "one", "other", "told", "my_shares", "least", "greatest", "middle", "share", "good", "turned"]) (sc := defScope s_law) (by decide +kernel)) (fun _ _ _ _ _ => (gv_nm (i := 4) sc_law.nd (by rfl) (by first | exact Or.inl rfl | exact Or.inr rfl))) (fun _ _ _ _ _ => tvs_nil) (fun _ _ _ _ _ => (ev_orV (ev_cl hc (ok__law_mixture T) safe__law_mixture (hr.mono (by decide)) (by rfl) T.m__law_mixture T.k__law_mixture T.b__law_mixture (av_cons (vr 1) (av_cons ev_int av_nil))) (ev_one (ev_tup (av_cons (ev_tup (av_cons ev_str (av_cons (ev_tup (av_cons ev_int (av_cons ev_int av_nil))) av_nil))) av_nil))))))) (gv_ls (by rfl) (gvs_cons (gv_nm (i := 5) sc_law.nd (by rfl) (by first | exact Or.inl rfl | exact Or.inr rfl)) (gvs_cons (gv_nm (i := 6) sc_law.nd (by rfl) (by first | exact Or.inl rfl | exact Or.inr rfl)) gvs_nil)) (by rfl) (by rfl) (gl_cons (gl_cons gl_nil))))
    (ess_cons (es_set (i := 7) sc_law.nd (by rfl) (by first | exact Or.inl rfl | exact Or.inr rfl) (ev_cl hc (ok_between T) safe_between (hr.mono (by decide)) (by rfl) T.m_between T.k_between T.b_between (av_cons (vr 3) (av_cons (vr 5) (av_cons (vr 6) av_nil)))))
    (ess_cons (es_set (i := 8) sc_law.nd (by rfl) (by first | exact Or.inl rfl | exact Or.inr rfl) (ev_add (ev_frz (nv_lst (av_cons (ev_tup (av_cons ev_int (av_cons ev_int av_nil))) (av_cons (ev_tup (av_cons ev_int (av_cons ev_int av_nil))) (av_cons (ev_tup (av_cons ev_int (av_cons ev_int av_nil))) av_nil))))) (ev_frz (nv_lc (by rfl) sc_law.nd (own := ([("k", 4)] : List (Str × Nat))) (iv_range1 (by rfl) T.z_range ev_int) (blkOk_by (N := ["script", "tape", "turn", "grade", "k", "one", "other", "told", "my_shares", "least", "greatest", "middle", "share", "good", "turned"]) (sc := defScope s_law) (by decide +kernel)) (fun _ _ _ _ _ => (gv_nm (i := 4) sc_law.nd (by rfl) (by first | exact Or.inl rfl | exact Or.inr rfl))) (fun _ _ _ _ _ => tvs_nil) (fun _ _ _ _ _ => (ev_cl hc (ok__law_frac T) safe__law_frac (hr.mono (by decide)) (by rfl) T.m__law_frac T.k__law_frac T.b__law_frac (av_cons (ev_cl hc (ok__law_draw T) safe__law_draw (hr.mono (by decide)) (by rfl) T.m__law_draw T.k__law_draw T.b__law_draw (av_cons (vr 1) (av_cons ev_int av_nil))) (av_cons ev_int av_nil))))))))
    (ess_cons (es_if (tv_isNot (vr 7) ev_non) (ess_cons (es_asg (vr 7) (gv_tp (by rfl) (gvs_cons (gv_nm (i := 9) sc_law.nd (by rfl) (by first | exact Or.inl rfl | exact Or.inr rfl)) (gvs_cons (gv_nm (i := 10) sc_law.nd (by rfl) (by first | exact Or.inl rfl | exact Or.inr rfl)) gvs_nil)) (by rfl) (by rfl) (gl_cons (gl_cons gl_nil))))
    (ess_cons (es_if (tv_w (wv_or (tv_e (ev_cl hc (ok__law_below T) safe__law_below (hr.mono (by decide)) (by rfl) T.m__law_below T.k__law_below T.b__law_below (av_cons (vr 10) (av_cons (vr 9) av_nil)))) (wv_or (tv_e (ev_cl hc (ok__law_below T) safe__law_below (hr.mono (by decide)) (by rfl) T.m__law_below T.k__law_below T.b__law_below (av_cons (vr 9) (av_cons (ev_tup (av_cons ev_int (av_cons ev_int av_nil))) av_nil)))) (wv_or1 (tv_e (ev_cl hc (ok__law_below T) safe__law_below (hr.mono (by decide)) (by rfl) T.m__law_below T.k__law_below T.b__law_below (av_cons (ev_tup (av_cons ev_int (av_cons ev_int av_nil))) (av_cons (vr 10) av_nil)))))))) (ess_one (es_ret ev_bl)) ess_nil)
    (ess_cons (es_set (i := 11) sc_law.nd (by rfl) (by first | exact Or.inl rfl | exact Or.inr rfl) (ev_cl hc (ok__law_part T) safe__law_part (hr.mono (by decide)) (by rfl) T.m__law_part T.k__law_part T.b__law_part (av_cons (ev_cl hc (ok__law_sum T) safe__law_sum (hr.mono (by decide)) (by rfl) T.m__law_sum T.k__law_sum T.b__law_sum (av_cons (vr 9) (av_cons (vr 10) av_nil))) (av_cons (ev_tup (av_cons ev_int (av_cons ev_int av_nil))) av_nil))))
    (ess_cons (es_set (i := 8) sc_law.nd (by rfl) (by first | exact Or.inl rfl | exact Or.inr rfl) (ev_add (vr 8) (ev_frz (nv_lst (av_cons (vr 9) (av_cons (vr 10) (av_cons (vr 11) av_nil)))))))
    (ess_one (es_set (i := 8) sc_law.nd (by rfl) (by first | exact Or.inl rfl | exact Or.inr rfl) (ev_add (vr 8) (ev_frz (nv_lst (av_cons (ev_cl hc (ok__law_sum T) safe__law_sum (hr.mono (by decide)) (by rfl) T.m__law_sum T.k__law_sum T.b__law_sum (av_cons (vr 9) (av_cons (ev_tup (av_cons (ev_neg ev_int) (av_cons (ev_pow ev_int ev_int) av_nil))) av_nil))) (av_cons (ev_cl hc (ok__law_sum T) safe__law_sum (hr.mono (by decide)) (by rfl) T.m__law_sum T.k__law_sum T.b__law_sum (av_cons (vr 10) (av_cons (ev_tup (av_cons ev_int (av_cons (ev_pow ev_int ev_int) av_nil))) av_nil))) av_nil))))))))))) ess_nil)
    (ess_cons (es_for .never (by rfl) (iv_e (vr 8)) (gv_nm (i := 12) sc_law.nd (by rfl) (by first | exact Or.inl rfl | exact Or.inr rfl)) (ess_cons (es_if (tv_w (wv_or (tv_e (ev_cl hc (ok__law_below T) safe__law_below (hr.mono (by decide)) (by rfl) T.m__law_below T.k__law_below T.b__law_below (av_cons (vr 12) (av_cons (ev_tup (av_cons ev_int (av_cons ev_int av_nil))) av_nil)))) (wv_or1 (tv_e (ev_cl hc (ok__law_below T) safe__law_below (hr.mono (by decide)) (by rfl) T.m__law_below T.k__law_below T.b__law_below (av_cons (ev_tup (av_cons ev_int (av_cons ev_int av_nil))) (av_cons (vr 12) av_nil))))))) (ess_one es_continue) ess_nil)
    (ess_cons (es_set (i := 13) sc_law.nd (by rfl) (by first | exact Or.inl rfl | exact Or.inr rfl) (ev_and (ev_isNot (vr 7) ev_non) (ev_and (ev_not (ev_cl hc (ok__law_below T) safe__law_below (hr.mono (by decide)) (by rfl) T.m__law_below T.k__law_below T.b__law_below (av_cons (vr 12) (av_cons (ev_ix (hu1 hr) hc (vh 7) ev_int) av_nil)))) (ev_one (ev_not (ev_cl hc (ok__law_below T) safe__law_below (hr.mono (by decide)) (by rfl) T.m__law_below T.k__law_below T.b__law_below (av_cons (ev_ix (hu1 hr) hc (vh 7) ev_int) (av_cons (vr 12) av_nil))))))))
    (ess_one (es_if (tv_ne (hu64 hr) (ev_cl hc (ok__law_lets T) safe__law_lets (hr.mono (by decide)) (by rfl) T.m__law_lets T.k__law_lets T.b__law_lets (av_cons (vr 3) (av_cons (ev_cl hc (ok__law_mixed T) safe__law_mixed (hr.mono (by decide)) (by rfl) T.m__law_mixed T.k__law_mixed T.b__law_mixed (av_cons (vr 5) (av_cons (vr 6) (av_cons (vr 12) av_nil)))) av_nil))) (vr 13)) (ess_one (es_ret ev_bl)) ess_nil)))))
    (ess_cons (es_set (i := 14) sc_law.nd (by rfl) (by first | exact Or.inl rfl | exact Or.inr rfl) (ev_cl hc (ok_between T) safe_between (hr.mono (by decide)) (by rfl) T.m_between T.k_between T.b_between (av_cons (vr 3) (av_cons (vr 6) (av_cons (vr 5) av_nil)))))
    (ess_cons (es_if (tv_ne (hu64 hr) (vr 14) (ev_if (tv_is (vr 7) ev_non) ev_non (ev_tup (av_cons (ev_cl hc (ok__law_turned T) safe__law_turned (hr.mono (by decide)) (by rfl) T.m__law_turned T.k__law_turned T.b__law_turned (av_cons (ev_ix (hu1 hr) hc (vh 7) ev_int) av_nil)) (av_cons (ev_cl hc (ok__law_turned T) safe__law_turned (hr.mono (by decide)) (by rfl) T.m__law_turned T.k__law_turned T.b__law_turned (av_cons (ev_ix (hu1 hr) hc (vh 7) ev_int) av_nil)) av_nil))))) (ess_one (es_ret ev_bl)) ess_nil)
    (ess_one (es_if (tv_ne (hu64 hr) (ev_cl hc (ok_between T) safe_between (hr.mono (by decide)) (by rfl) T.m_between T.k_between T.b_between (av_cons (vr 3) (av_cons (vr 5) (av_cons (vr 5) av_nil)))) (ev_if (tv_e (ev_cl hc (ok__law_lets T) safe__law_lets (hr.mono (by decide)) (by rfl) T.m__law_lets T.k__law_lets T.b__law_lets (av_cons (vr 3) (av_cons (vr 5) av_nil)))) (ev_tup (av_cons (ev_tup (av_cons ev_int (av_cons ev_int av_nil))) (av_cons (ev_tup (av_cons ev_int (av_cons ev_int av_nil))) av_nil))) ev_non)) (ess_one (es_ret ev_bl)) ess_nil)))))))))))
    (ess_one (es_ret ev_bl)))))
end G

set_option Elab.async false
set_option linter.all false
set_option maxRecDepth 100000
set_option maxHeartbeats 1000000
namespace G
open PySem L2 Fx
def tc (ns : List Int) (a b : Int) : Cell := .lst [.lst (ns.map PV.int), .int a, .int b]
def TL (n : Nat) (L0 : Store) (m : Nat) (L : Store) : Prop := ∃ ns a b, 0 ≤ a ∧ a + (m : Int) ≤ 2 ^ 100 ∧ n < L0.length ∧ L = L0.set n (tc ns a b)
theorem log2_le {a : Nat} {k : Nat} (h : a < 2 ^ k) : a.log2 < k ∨ a = 0 := by
  by_cases ha : a = 0
  · exact .inr ha
  · exact .inl ((Nat.log2_lt ha).mpr h)
theorem log2_lt' {a : Nat} {k : Nat} (hk : 0 < k) (h : a < 2 ^ k) : a.log2 < k := by
  rcases log2_le h with q | rfl
  · exact q
  · simpa using hk
theorem tc_set1 {kt : Bool} {ns : List Int} {a b x : Int} : setC kt (tc ns a b) (.int 1) (.int x) = some (tc ns x b) := rfl
theorem tc_set2 {kt : Bool} {ns : List Int} {a b x : Int} : setC kt (tc ns a b) (.int 2) (.int x) = some (tc ns a x) := rfl
theorem tc_ix {kt : Bool} {n : Nat} {L : Store} {ns : List Int} {a b : Int} (h : L[n]? = some (tc ns a b)) : hIx kt L (.v (.loc n)) (.int 0) = some (.lst (ns.map PV.int)) ∧ hIx kt L (.v (.loc n)) (.int 1) = some (.int a) ∧ hIx kt L (.v (.loc n)) (.int 2) = some (.int b) := by
  unfold hIx
  simp [h, tc]
theorem pmod (x : Int) : (x % 2305843009213693951).natAbs.log2 < 61 := by
  have h1 := Int.emod_nonneg x (by decide : (2305843009213693951 : Int) ≠ 0)
  have h2 := Int.emod_lt_of_pos x (by decide : (0 : Int) < 2305843009213693951)
  exact log2_lt' (by decide) (by omega)
theorem TL.mono {n : Nat} {L0 L : Store} {m m' : Nat} (h : TL n L0 m L) (hm : m' ≤ m) : TL n L0 m' L := by
  obtain ⟨ns, a, b, h1, h2, h3, h4⟩ := h
  exact ⟨ns, a, b, h1, by omega, h3, h4⟩
def isW : PV → Bool
  | .int _ => true
  | _ => false
def inW (a b : Int) : PV → Bool
  | .int i => decide (a ≤ i) && decide (i ≤ b)
  | _ => false
theorem cut_1 {xs : List PV} : cutP xs (some 1) none = xs.tail := by
  unfold cutP
  have e : HT.sIx xs.length 0 (some 1) = min 1 xs.length := HT.sIx_nat xs.length 0 1
  rw [e, HT.sIx_none]
  cases xs with
  | nil => rfl
  | cons x r =>
    have : min 1 (x :: r).length = 1 := by simp
    rw [this]
    simp
theorem two_of {ys : List PV} (h : ys.length = 2) : ∃ a b, ys = [a, b] := by
  match ys, h with
  | [a, b], _ => exact ⟨a, b, rfl⟩
theorem three_of {ys : List PV} (h : ys.length = 3) : ∃ a b c, ys = [a, b, c] := by
  match ys, h with
  | [a, b, c], _ => exact ⟨a, b, c, rfl⟩
def D (n : Nat) : Nat → PV → Prop
  | _, .non => True
  | _, .bl _ => True
  | _, .int i => i.natAbs ≤ 2 ^ 60 + 1000 * n
  | _, .str x => x.length ≤ n ∧ PyData.strOk x = true
  | d + 1, .tup xs => xs.length ≤ n ∧ ∀ x ∈ xs, D n d x
  | d + 1, .lst xs => xs.length ≤ n ∧ ∀ x ∈ xs, D n d x
  | _, _ => False
theorem D.mono {n : Nat} : ∀ {d d' n' : Nat} {v : PV}, D n d v → n ≤ n' → d ≤ d' → D n' d' v
  | d, d', n', .non, _, _, _ => by cases d' <;> exact True.intro
  | d, d', n', .bl _, _, _, _ => by cases d' <;> exact True.intro
  | d, d', n', .int i, h, hn, _ => by
    have h : i.natAbs ≤ 2 ^ 60 + 1000 * n := by cases d <;> exact h
    have : i.natAbs ≤ 2 ^ 60 + 1000 * n' := by omega
    cases d' <;> exact this
  | d, d', n', .str x, h, hn, _ => by
    have h : x.length ≤ n ∧ PyData.strOk x = true := by cases d <;> exact h
    have : x.length ≤ n' ∧ PyData.strOk x = true := ⟨by omega, h.2⟩
    cases d' <;> exact this
  | 0, _, _, .tup xs, h, _, _ => h.elim
  | d + 1, 0, _, .tup xs, h, _, hd => absurd hd (by omega)
  | d + 1, d' + 1, n', .tup xs, h, hn, hd => ⟨Nat.le_trans h.1 hn, fun x hx => D.mono (h.2 x hx) hn (Nat.le_of_succ_le_succ hd)⟩
  | 0, _, _, .lst xs, h, _, _ => h.elim
  | d + 1, 0, _, .lst xs, h, _, hd => absurd hd (by omega)
  | d + 1, d' + 1, n', .lst xs, h, hn, hd => ⟨Nat.le_trans h.1 hn, fun x hx => D.mono (h.2 x hx) hn (Nat.le_of_succ_le_succ hd)⟩
  | d, _, _, .dk _ _, h, _, _ => by cases d <;> exact h.elim
  | d, _, _, .dt _ _, h, _, _ => by cases d <;> exact h.elim
  | d, _, _, .loc _, h, _, _ => by cases d <;> exact h.elim
  | d, _, _, .scr _, h, _, _ => by cases d <;> exact h.elim
theorem D.okP {n d : Nat} {v : PV} (h : D n d v) : Fx.okP v = true := by
  cases v <;> first | rfl | (cases d <;> exact h.elim)
theorem D.tup {n d : Nat} {xs : List PV} (h : D n d (.tup xs)) : ∃ d', d = d' + 1 ∧ xs.length ≤ n ∧ ∀ x ∈ xs, D n d' x := by
  cases d with
  | zero => exact h.elim
  | succ d => exact ⟨d, rfl, h⟩
theorem D.lst {n d : Nat} {xs : List PV} (h : D n d (.lst xs)) : ∃ d', d = d' + 1 ∧ xs.length ≤ n ∧ ∀ x ∈ xs, D n d' x := by
  cases d with
  | zero => exact h.elim
  | succ d => exact ⟨d, rfl, h⟩
theorem D.int' {n d : Nat} {i : Int} (h : i.natAbs ≤ 2 ^ 60 + 1000 * n) : D n d (.int i) := by cases d <;> exact h
theorem D.str' {n d : Nat} {x : Str} (h : x.length ≤ n) (h2 : PyData.strOk x = true) : D n d (.str x) := by cases d <;> exact ⟨h, h2⟩
theorem D.bl' {n d : Nat} {b : Bool} : D n d (.bl b) := by cases d <;> exact True.intro
theorem D.non' {n d : Nat} : D n d .non := by cases d <;> exact True.intro
theorem strOk_add {x y : Str} (h1 : PyData.strOk x = true) (h2 : PyData.strOk y = true) : PyData.strOk (x ++ y) = true := by
  unfold PyData.strOk at *
  show (x.cps ++ y.cps).all _ = true
  rw [Array.all_append, h1, h2]
  rfl
theorem add_length (x y : Str) : (x ++ y).length = x.length + y.length := by
  show (x.cps ++ y.cps).size = _
  rw [Array.size_append]
  rfl
theorem cutS_ok {x : Str} {lo hi : Option Int} (h : PyData.strOk x = true) : PyData.strOk (cutS x lo hi) = true ∧ (cutS x lo hi).length ≤ x.length := by
  unfold PyData.strOk at *
  rw [Array.all_eq_true'] at h
  constructor
  · rw [Array.all_eq_true']
    intro c hc
    unfold cutS at hc
    simp only [List.mem_toArray] at hc
    exact h c (Array.mem_toList_iff.mp (List.mem_of_mem_drop (List.mem_of_mem_take hc)))
  · show (cutS x lo hi).cps.size ≤ _
    unfold cutS
    simp [Str.length]
    omega
theorem setC_l {kt : Bool} {xs : List PV} {j : Nat} {x : PV} (h : j < xs.length) : setC kt (.lst xs) (.int j) x = some (.lst (xs.set j x)) := by
  show (ixN xs.length j).map (fun j => Cell.lst (xs.set j x)) = _
  unfold ixN
  simp [h]
theorem mPop_l {xs : List PV} {j : Nat} (h : j < xs.length) (h2 : xs.length < 1000) : mPop (.lst xs) [.int j] = some (.lst (xs.eraseIdx j)) := by
  unfold mPop
  dsimp only
  rw [if_pos ⟨by omega, by omega⟩]
  unfold ixN
  simp [h]
theorem mInsert_l {xs : List PV} {j : Nat} {x : PV} (h : j < xs.length) (h2 : xs.length < 1000) : mInsert (.lst xs) [.int j, x] = some (.lst (xs.take j ++ [x] ++ xs.drop j)) := by
  unfold mInsert
  dsimp only
  rw [if_pos ⟨by omega, by omega, Nat.lt_of_lt_of_le h2 (by decide)⟩]
  simp
def costS : Nat → Nat
  | 0 => 0
  | n + 1 => 100 + costS n
def costA : Nat → Nat
  | 0 => 0
  | n + 1 => 4 + 3 * costA n
theorem costA3 : costA 3 = 52 := rfl
def seqP (b : Bool) (xs : List PV) : PV := if b = true then .tup xs else .lst xs
theorem seqP_ok (b : Bool) (xs : List PV) : okP (seqP b xs) = true := by cases b <;> rfl
theorem seqP_t (b : Bool) (xs : List PV) : isP .tuple (seqP b xs) = b := by cases b <;> rfl
theorem seqP_l (b : Bool) (xs : List PV) : isP .list (seqP b xs) = !b := by cases b <;> rfl
theorem seqP_len {L : Store} (b : Bool) (xs : List PV) : hLen L (.v (seqP b xs)) = some (.int xs.length) := by cases b <;> rfl
theorem seqP_list {L : Store} (b : Bool) (xs : List PV) : nList L (.v (seqP b xs)) = some (.lst xs) := by cases b <;> rfl
theorem seqP_tuple {L : Store} (b : Bool) (xs : List PV) : hTuple L (.v (seqP b xs)) = some (.tup xs) := by cases b <;> rfl
theorem seqP_int (b : Bool) (xs : List PV) : isP .int (seqP b xs) = false := by cases b <;> rfl
theorem seqP_str (b : Bool) (xs : List PV) : isP .str (seqP b xs) = false := by cases b <;> rfl
theorem seqP_isW (b : Bool) (xs : List PV) : isW (seqP b xs) = false := by cases b <;> rfl
theorem seqP_D {n d : Nat} {b : Bool} {xs : List PV} : D n (d + 1) (seqP b xs) ↔ (xs.length ≤ n ∧ ∀ x ∈ xs, D n d x) := by cases b <;> rfl
theorem seqP_ix {kt : Bool} {L : Store} (b : Bool) (xs : List PV) (i : Int) : hIx kt L (.v (seqP b xs)) (.int i) = atI xs i := by cases b <;> rfl
theorem seq_D {n d : Nat} {xs : List PV} (h1 : xs.length ≤ n) (h2 : ∀ x ∈ xs, D n d x) : D n (d + 1) (.tup xs) := ⟨h1, h2⟩
theorem seq_Dl {n d : Nat} {xs : List PV} (h1 : xs.length ≤ n) (h2 : ∀ x ∈ xs, D n d x) : D n (d + 1) (.lst xs) := ⟨h1, h2⟩
theorem cutP_mem {xs : List PV} {lo hi : Option Int} {x : PV} (h : x ∈ cutP xs lo hi) : x ∈ xs := List.mem_of_mem_drop (List.mem_of_mem_take h)
theorem cutP_len {xs : List PV} {lo hi : Option Int} : (cutP xs lo hi).length ≤ xs.length := by
  unfold cutP
  simp
  omega
theorem atI_last {xs : List PV} {x : PV} : atI (xs ++ [x]) (-1) = some x := by
  unfold atI ixN
  have e1 : (-1 + ((xs.length : Int) + 1)).toNat = xs.length := by omega
  have e2 : (1 : Int) ≤ (xs.length : Int) + 1 := by omega
  simp [e1, e2]
mutual
def DB (n : Nat) : Nat → PV → Bool
  | _, .non => true
  | _, .bl _ => true
  | _, .int i => decide (i.natAbs ≤ 2 ^ 60 + 1000 * n)
  | _, .str x => decide (x.length ≤ n) && PyData.strOk x
  | d + 1, .tup xs => decide (xs.length ≤ n) && DBs n d xs
  | d + 1, .lst xs => decide (xs.length ≤ n) && DBs n d xs
  | _, _ => false
def DBs (n : Nat) : Nat → List PV → Bool
  | _, [] => true
  | d, x :: xs => DB n d x && DBs n d xs
end
mutual
theorem DB_D {n : Nat} : ∀ {d : Nat} {v : PV}, DB n d v = true → D n d v
  | _, .non, _ => D.non'
  | _, .bl _, _ => D.bl'
  | d, .int i, h => D.int' (by simpa [DB] using h)
  | d, .str x, h => by
    have h : decide (x.length ≤ n) = true ∧ PyData.strOk x = true := by simpa [DB] using h
    exact D.str' (by simpa using h.1) h.2
  | 0, .tup xs, h => by simp [DB] at h
  | d + 1, .tup xs, h => by
    have h : xs.length ≤ n ∧ DBs n d xs = true := by simpa [DB] using h
    exact ⟨h.1, DBs_D h.2⟩
  | 0, .lst xs, h => by simp [DB] at h
  | d + 1, .lst xs, h => by
    have h : xs.length ≤ n ∧ DBs n d xs = true := by simpa [DB] using h
    exact ⟨h.1, DBs_D h.2⟩
  | d, .dk _ _, h => by cases d <;> simp [DB] at h
  | d, .dt _ _, h => by cases d <;> simp [DB] at h
  | d, .loc _, h => by cases d <;> simp [DB] at h
  | d, .scr _, h => by cases d <;> simp [DB] at h
theorem DBs_D {n : Nat} : ∀ {d : Nat} {xs : List PV}, DBs n d xs = true → ∀ x ∈ xs, D n d x
  | _, [], _, x, hx => by simp at hx
  | d, y :: ys, h, x, hx => by
    have h : DB n d y = true ∧ DBs n d ys = true := by simpa [DBs] using h
    rcases List.mem_cons.mp hx with q | q
    · rw [q]; exact DB_D h.1
    · exact DBs_D h.2 x q
end
def Pl : Nat → PV → Prop
  | _, .non => True
  | _, .bl _ => True
  | _, .int _ => True
  | _, .str x => PyData.strOk x = true
  | d + 1, .tup xs => xs.length ≤ 1000 ∧ ∀ x ∈ xs, Pl d x
  | d + 1, .lst xs => xs.length ≤ 1000 ∧ ∀ x ∈ xs, Pl d x
  | _, _ => False
theorem Pl.ok {d : Nat} {v : PV} (h : Pl d v) : okP v = true := by
  cases v <;> first | rfl | (cases d <;> exact h.elim)
end G

set_option Elab.async false
set_option linter.all false
set_option maxRecDepth 100000
set_option maxHeartbeats 1000000
namespace G
open PySem L2 Fx
theorem draw_ok {n : Nat} {L0 L : Store} {m : Nat} {many : Int} (h : TL n L0 (m + 1) L) (h0 : 0 < many) (h1 : many < 2 ^ 60) : Ok (g__law_draw [.loc n, .int many] L) fun v L' => (∃ i, v = .int i ∧ 0 ≤ i ∧ i < many) ∧ TL n L0 m L' := by
  obtain ⟨ns, a, b, ha, ha2, hn, rfl⟩ := h
  have hg : ∀ c : Cell, (L0.set n c)[n]? = some c := fun c => by simp [hn]
  have t0 : ∀ (kt : Bool) a b, hIx kt (L0.set n (tc ns a b)) (.v (.loc n)) (.int 0) = some (.lst (ns.map PV.int)) := fun kt a b => (tc_ix (hg _)).1
  have t1 : ∀ (kt : Bool) a b, hIx kt (L0.set n (tc ns a b)) (.v (.loc n)) (.int 1) = some (.int a) := fun kt a b => (tc_ix (hg _)).2.1
  have t2 : ∀ (kt : Bool) a b, hIx kt (L0.set n (tc ns a b)) (.v (.loc n)) (.int 2) = some (.int b) := fun kt a b => (tc_ix (hg _)).2.2
  have l1 : Nat.log2 1000003 + a.natAbs.log2 < 1000000 := by
    have q1 : Nat.log2 1000003 < 60 := log2_lt' (by decide) (by decide)
    have q2 : a.natAbs.log2 < 101 := log2_lt' (by decide) (by omega)
    omega
  have l2 : ∀ x : Int, (x % 2305843009213693951).natAbs.log2 + (x % 2305843009213693951).natAbs.log2 < 1000000 := fun x => by have := pmod x; omega
  have l3 : ∀ x : Int, Nat.log2 1181783497276652981 + (x % 2305843009213693951).natAbs.log2 < 1000000 := fun x => by
    have := pmod x
    have q1 : Nat.log2 1181783497276652981 < 64 := log2_lt' (by decide) (by decide)
    omega
  unfold g__law_draw
  rw [ok_def]
  unfold b__law_draw
  simp only [List.map_cons, List.map_nil, List.length_cons, List.length_nil]
  rw [Ok_seqSet]
  simp [List.replicate]
  refine Ok.seqIf (fun s L1 => ∃ c b', s = [.val (.loc n), .val (.int many), .val (.int 2305843009213693951), c, .no] ∧ ∃ a', 0 ≤ a' ∧ a' + (m : Int) ≤ 2 ^ 100 ∧ L1 = L0.set n (tc ns a' b')) ?_ ?_
  · by_cases hb : b < many
    · simp [t2, hb]
      refine Ok.seqIf (fun s L1 => (∃ c, s = [.val (.loc n), .val (.int many), .val (.int 2305843009213693951), .val (.int c), .no]) ∧ L1 = L0.set n (tc ns a b)) ?_ ?_
      · by_cases hl : 0 < ns.length
        · simp [t0, t1, hl]
          have g0 := Int.emod_nonneg a (by omega : (ns.length : Int) ≠ 0)
          have g1 := Int.emod_lt_of_pos a (by omega : (0 : Int) < ns.length)
          obtain ⟨k, hk⟩ := Int.eq_ofNat_of_zero_le g0
          have hk2 : k < ns.length := by omega
          refine ⟨.int ns[k], ?_, _, rfl⟩
          rw [hk]
          exact atI_nat1 (by simp [hk2])
        · simp [t0, t1, hl]
      · rintro s1 L1 ⟨⟨c, rfl⟩, rfl⟩
        refine Ok.seqIf (fun s L1 => (∃ c, s = [.val (.loc n), .val (.int many), .val (.int 2305843009213693951), .val (.int c), .no]) ∧ L1 = L0.set n (tc ns a b)) ?_ ?_
        · by_cases hc : c < 1000000000000000000
          · simp [t0, t1, l1, l2, l3, hc]
          · simp [t0, t1, l1, l2, l3, hc]
        · rintro s1 L1 ⟨⟨c, rfl⟩, rfl⟩
          rw [Ok_seqPutL (n := n) (c := tc ns a b) rfl]
          simp [t1, hg, tc_set1, tc_set2]
          exact ⟨_, _, by omega, by omega, rfl⟩
    · simp [t2, hb]
      exact ⟨_, _, ha, by omega, rfl⟩
  · rintro s1 L1 ⟨c, b', rfl, a', ha', ha3, rfl⟩
    simp [hg, t2, h0]
    rw [Ok_seqPutL (n := n) (c := tc ns a' b') rfl]
    have hlog : many.natAbs.log2 < 9000 := log2_lt' (by decide) (by omega)
    simp [hg, t2, h0, hlog, tc_set2]
    exact ⟨⟨Int.emod_nonneg _ (by omega), Int.emod_lt_of_pos _ h0⟩, ns, a', _, ha', ha3, hn, rfl⟩
end G

set_option Elab.async false
set_option linter.all false
set_option maxRecDepth 100000
set_option maxHeartbeats 1000000
namespace G
open PySem L2 Fx
/-! ### greatest common divisors -/
theorem div_loop {L : Store} : ∀ (n a b : Nat), b < n → wLoop (bB (eOp hNe (eVar 1) (eC (.int 0)))) (sPar 0 1 (eVar 1) (eOp hMod (eVar 0) (eVar 1))) n [.val (.int a), .val (.int b)] L = some (.ok (.nx [.val (.int (Nat.gcd a b : Nat)), .val (.int 0)]) L)
  | 0, a, b, h => absurd h (Nat.not_lt_zero b)
  | n + 1, a, b, h => by
    by_cases hb : b = 0
    · subst hb
      rw [Ok_wLoop0]
      · simp
      · simp [bnd_ok, ret_some]
    · have hm := Nat.mod_lt a (Nat.pos_of_ne_zero hb)
      rw [Ok_wLoop1 (s2 := [.val (.int b), .val (.int (a % b : Nat))]) (L2 := L), div_loop n b (a % b) (by omega)]
      · rw [Nat.gcd_comm a b, Nat.gcd_rec b a, Nat.gcd_comm (a % b) b]
      · simp [bnd_ok, ret_some, hb]
      · simp [bnd_ok, ret_some, Nat.pos_of_ne_zero hb]
theorem com_loop {L : Store} : ∀ (n a b : Nat), a < n → wLoop (bB (eOp hNe (eVar 0) (eC (.int 0)))) (sPar 0 1 (eOp hMod (eVar 1) (eVar 0)) (eVar 0)) n [.val (.int a), .val (.int b)] L = some (.ok (.nx [.val (.int 0), .val (.int (Nat.gcd a b : Nat))]) L)
  | 0, a, b, h => absurd h (Nat.not_lt_zero a)
  | n + 1, a, b, h => by
    by_cases hb : a = 0
    · subst hb
      rw [Ok_wLoop0]
      · simp
      · simp [bnd_ok, ret_some]
    · have hm := Nat.mod_lt b (Nat.pos_of_ne_zero hb)
      rw [Ok_wLoop1 (s2 := [.val (.int (b % a : Nat)), .val (.int a)]) (L2 := L), com_loop n (b % a) a (by omega)]
      · rw [Nat.gcd_rec a b]
      · simp [bnd_ok, ret_some, hb]
      · simp [bnd_ok, ret_some, Nat.pos_of_ne_zero hb]
theorem divisor_ok {L : Store} {a b : Nat} (hb : b < fuelN) : g_divisor [.int a, .int b] L = some (.ok (.int (Nat.gcd a b : Nat)) L) := by
  refine Ok.eq ?_
  unfold g_divisor
  rw [ok_def]
  unfold b_divisor
  rw [Ok_seq]
  refine Ok.of (div_loop fuelN a b hb) ?_
  simp
theorem common_ok {L : Store} {a b : Nat} (ha : a < fuelN) : g__law_common [.int a, .int b] L = some (.ok (.int (Nat.gcd a b : Nat)) L) := by
  refine Ok.eq ?_
  unfold g__law_common
  rw [ok_def]
  unfold b__law_common
  rw [Ok_seq]
  refine Ok.of (com_loop fuelN a b ha) ?_
  simp
theorem frac_ok {L : Store} {a b : Nat} (ha : a < 2 ^ 8000) (hb : 0 < b) (hb2 : b < 2 ^ 8000) : g__law_frac [.int a, .int b] L = some (.ok (.tup [.int (a / Nat.gcd a b : Nat), .int (b / Nat.gcd a b : Nat)]) L) := by
  refine Ok.eq ?_
  unfold g__law_frac
  rw [ok_def]
  unfold b__law_frac
  have hg : 0 < Nat.gcd a b := Nat.gcd_pos_of_pos_right a hb
  have hl : (Nat.gcd a b).log2 < 9000 := log2_lt' (by decide) (Nat.lt_of_le_of_lt (Nat.gcd_le_right a hb) (Nat.lt_trans hb2 (Nat.pow_lt_pow_right (by decide) (by decide))))
  have h0 : ¬ ((a : Int) < 0) := by omega
  have hc := common_ok (L := L) (b := b) (show a < fuelN from ha)
  have hz : 2 ≤ sizeLine := by decide
  simp [h0, hc, hg, hl, hz]
end G

set_option Elab.async false
set_option linter.all false
set_option maxRecDepth 100000
set_option maxHeartbeats 1000000
namespace G
open PySem L2 Fx
def AmtOk (a : Nat × Nat) : Prop := 0 < a.1 ∧ a.1 ≤ 1000000 ∧ 0 < a.2 ∧ a.2 ≤ 7 ∧ Nat.gcd a.1 a.2 = 1
theorem frac_amt {p q : Nat} (hp : 0 < p) (hq : 0 < q) (h1 : p ≤ 1000000) (h2 : q ≤ 7) : AmtOk (p / Nat.gcd p q, q / Nat.gcd p q) := by
  have hg := Nat.gcd_pos_of_pos_right p hq
  refine ⟨Nat.div_pos (Nat.gcd_le_left q hp) hg, Nat.le_trans (Nat.div_le_self _ _) h1, Nat.div_pos (Nat.gcd_le_right p hq) hg, Nat.le_trans (Nat.div_le_self _ _) h2, by rw [Nat.gcd_div (Nat.gcd_dvd_left p q) (Nat.gcd_dvd_right p q), Nat.div_self hg]⟩
theorem amount_gen {k : Nat} {L0 L : Store} {m : Nat} (h : TL k L0 (m + 3) L) : Ok (g__law_amount [.loc k] L) fun v L' => (∃ a, v = frP a ∧ AmtOk a) ∧ TL k L0 m L' := by
  unfold g__law_amount
  rw [ok_def]
  unfold b__law_amount
  have z3 : 3 ≤ sizeLine := by decide
  simp [z3]
  refine (draw_ok (m := m + 2) h (by decide) (by decide)).imp ?_
  rintro v L1 ⟨⟨i, rfl, h0, h1⟩, hT⟩
  obtain ⟨x, hx, e⟩ := ix_mem (xs := [PV.int 3, .int 50, .int 1000000]) h0 (by simpa using h1)
  obtain ⟨y, rfl, hy⟩ : ∃ y : Int, x = .int y ∧ 0 < y ∧ y ≤ 1000000 := by
    simp at hx
    rcases hx with rfl | rfl | rfl <;> exact ⟨_, rfl, by decide, by decide⟩
  simp [e]
  refine (draw_ok (m := m + 1) hT hy.1 (by omega)).imp ?_
  rintro v L2 ⟨⟨j, rfl, h2, h3⟩, hT2⟩
  simp
  refine (draw_ok (m := m) hT2 (by decide) (by decide)).imp ?_
  rintro v L3 ⟨⟨l, rfl, h4, h5⟩, hT3⟩
  obtain ⟨p, hp⟩ := Int.eq_ofNat_of_zero_le (show 0 ≤ 1 + j by omega)
  obtain ⟨q, hq⟩ := Int.eq_ofNat_of_zero_le (show 0 ≤ 1 + l by omega)
  have hf := frac_ok (L := L3) (a := p) (b := q) (Nat.lt_of_le_of_lt (by omega : p ≤ 2 ^ 100) (Nat.pow_lt_pow_right (by decide) (by decide))) (by omega) (Nat.lt_of_le_of_lt (by omega : q ≤ 2 ^ 100) (Nat.pow_lt_pow_right (by decide) (by decide)))
  have ha := frac_amt (p := p) (q := q) (by omega) (by omega) (by omega) (by omega)
  generalize p / Nat.gcd p q = p' at hf ha
  generalize q / Nat.gcd p q = q' at hf ha
  simp [hp, hq, hf]
  exact ⟨⟨p', q', rfl, ha⟩, hT3⟩
/-! ### mixtures drawn -/
def mixP (ms : List (Str × (Nat × Nat))) : PV := .tup (ms.map fun r => .tup [.str r.1, frP r.2])
def PULPS : List Str := ["birch", "pine", "rag", "straw", "a", "zzzzzzzz", "hemp", "kapok"]
def MixOk (ms : List (Str × (Nat × Nat))) : Prop := (ms.map (·.1)).Pairwise (fun a b => ltS a b = true) ∧ ∀ r ∈ ms, r.1 ∈ PULPS ∧ AmtOk r.2
theorem mixture_gen {k : Nat} {L0 L : Store} {m : Nat} {most : Nat} (hm : most ≤ 20) (h : TL k L0 (m + 1 + 4 * most) L) : Ok (g__law_mixture [.loc k, .int most] L) fun v L' => (∃ ms, v = mixP ms ∧ MixOk ms ∧ ms.length ≤ most) ∧ TL k L0 m L' := by
  unfold g__law_mixture
  rw [ok_def]
  unfold b__law_mixture
  simp
  rw [Ok_seq]
  simp
  have h' : TL k L0 (m + 4 * most + 1) L := h.mono (by omega)
  refine (draw_ok (m := m + 4 * most) h' (by omega) (by omega)).imp ?_
  rintro v L1 ⟨⟨i, rfl, h0, h1⟩, hT⟩
  have h2 : i < 4611686018427387904 := by omega
  have h3 : (-4611686018427387904 : Int) ≤ i := by omega
  simp [h2, h3]
  have hz8 : 8 ≤ sizeLine := by decide
  have hz2 : 2 ≤ sizeLine := by decide
  refine ok_loop (fun r s L => r.length ≤ most ∧ TL k L0 (m + 4 * r.length) L ∧ ∃ c y z, s = [.val (.loc k), .val (.int most), .own c, y, z] ∧ SD frP (fun k a => k ∈ PULPS ∧ AmtOk a) (most - r.length) c) ?_ ?_ _ _ _ ?_
  · rintro x r s L ⟨hl, hT, c, y, z, rfl, hc⟩
    refine ⟨_, rfl, ?_⟩
    simp [hz8]
    rw [List.length_cons] at hT hl hc
    refine (draw_ok (m := m + 4 * r.length + 3) (hT.mono (by omega)) (by decide) (by decide)).imp ?_
    rintro v L1 ⟨⟨i, rfl, h0, h1⟩, hT⟩
    obtain ⟨x, hx, e⟩ := ix_mem (xs := [PV.str "birch", .str "pine", .str "rag", .str "straw", .str "a", .str "zzzzzzzz", .str "hemp", .str "kapok"]) h0 (by simpa using h1)
    obtain ⟨w, rfl, hw⟩ : ∃ w : Str, x = .str w ∧ w ∈ PULPS := by
      unfold PULPS
      simp at hx
      rcases hx with rfl | rfl | rfl | rfl | rfl | rfl | rfl | rfl <;> exact ⟨_, rfl, by simp⟩
    simp [e]
    refine (amount_gen (m := m + 4 * r.length) hT).imp ?_
    rintro v L2 ⟨⟨a, rfl, ha⟩, hT2⟩
    obtain ⟨c', e1, hc'⟩ := hc.put (kt := true) (k := w) (a := a) (by omega) ⟨hw, ha⟩
    simp [e1]
    exact ⟨by omega, hT2, hc'.mono (by omega)⟩
  · rintro s L ⟨_, hT, c, y, z, rfl, hc⟩
    simp
    obtain ⟨ms, q1, q2, q3, q4, q5⟩ := hc.sorted (kt := true) (L := L) (by simp; omega)
    simp [q4]
    have hk := comp_srcY (t := gNm 4) (g := eTup (aCons (eVar 4) (aCons (eOpH (hIx true) (hOwn 2) (eVar 4)) aNil))) (s := [.val (.loc k), .val (.int most), .own c, y, .no]) (L := L) (f := fun r : Str × (Nat × Nat) => PV.str r.1)
      (fun r => .tup [.str r.1, frP r.2]) (xs := ms) (fun r hr => ⟨_, rfl, by
        refine Ok.eq ?_
        simp [q5 r hr, hz2]⟩) (Nat.le_trans (by omega : ms.length ≤ 64) (by decide))
    simp [hk]
    simp at q2
    exact ⟨⟨ms, rfl, ⟨q1, q3⟩, q2⟩, by simpa using hT⟩
  · have hl : (rgItems 0 i.toNat).length = i.toNat := by simp [rgItems]
    rw [hl]
    exact ⟨by omega, hT.mono (by omega), _, _, _, rfl, SD.nil.mono (by omega)⟩
end G

set_option Elab.async false
set_option linter.all false
set_option maxRecDepth 100000
set_option maxHeartbeats 1000000
namespace G
open PySem L2 Fx
theorem like_bool {n : Nat} {L : Store} {a b : Bool} : g__law_like (n + 1) [.bl a, .bl b] L = some (.ok (.bl (a == b)) L) := by
  refine Ok.eq ?_
  show Ok (runDef0 3 (b__law_like (g__law_like n)) _ L) _
  rw [ok_def]
  unfold b__law_like
  rw [Ok_seq]
  simp [okP, isP]
  rw [Ok_seq]
  simp [okP, isP]
theorem like_refl {L : Store} : ∀ (n d : Nat) (v : PV), Pl d v → d < n → g__law_like n [v, v] L = some (.ok (.bl true) L)
  | 0, d, _, _, h => absurd h (Nat.not_lt_zero d)
  | n + 1, d, v, hv, hd => by
    refine Ok.eq ?_
    show Ok (runDef0 3 (b__law_like (g__law_like n)) _ L) _
    rw [ok_def]
    unfold b__law_like
    rw [Ok_seq]
    have hk := hv.ok
    rcases (show (∃ b xs, v = seqP b xs) ∨ (isP .tuple v = false ∧ isP .list v = false) by
        cases v with
        | tup xs => exact .inl ⟨true, xs, rfl⟩
        | lst xs => exact .inl ⟨false, xs, rfl⟩
        | _ => exact .inr ⟨rfl, rfl⟩) with ⟨b, xs, rfl⟩ | ⟨e1, e2⟩
    · obtain ⟨d', rfl, hl, hx⟩ : ∃ d', d = d' + 1 ∧ xs.length ≤ 1000 ∧ ∀ x ∈ xs, Pl d' x := by
        cases b <;> (cases d with
          | zero => exact hv.elim
          | succ d => exact ⟨d, rfl, hv⟩)
      have hz : (List.range xs.length).length ≤ sizeLine := Nat.le_trans (by simp; omega) (by decide : 1000 ≤ sizeLine)
      have hc := comp_src (t := gNm 2) (p := bNot (bB (eCall 2 (g__law_like n) (aCons (eOpH (hIx KT) (hE (eVar 0)) (eVar 2)) (aCons (eOpH (hIx KT) (hE (eVar 1)) (eVar 2)) aNil)) []))) (g := eVar 2) (s := [.val (seqP b xs), .val (seqP b xs), .no]) (L := L) (f := fun i : Nat => PV.int i)
        (fun _ => false) (fun i => PV.int i) (xs := List.range xs.length) (fun i hi => ⟨_, rfl, by
          have hi' : i < xs.length := List.mem_range.mp hi
          have hat : atI xs (i : Int) = some xs[i] := atI_nat1 (by simp [hi'])
          have hr := like_refl (L := L) n d' xs[i] (hx _ (List.getElem_mem hi')) (by omega)
          refine Ok.eq ?_
          simp [seqP_ix, hat, hr], fun q => absurd q Bool.false_ne_true⟩) hz
      have hf : (List.range xs.length).filter (fun _ => false) = [] := List.filter_eq_nil_iff.mpr fun _ _ => Bool.false_ne_true
      rw [hf] at hc
      have hr : rgItems 0 xs.length = (List.range xs.length).map fun i : Nat => PV.int i := by simp [rgItems]
      have h1 : (xs.length : Int) < 4611686018427387904 := by omega
      have h2 : (-4611686018427387904 : Int) ≤ (xs.length : Int) := by omega
      simp only [List.map_nil] at hc
      have he : hEq (.lst []) (.lst []) = some (.bl true) := rfl
      cases b
      all_goals
        simp [seqP_ok, seqP_t, seqP_l]
        rw [Ok_seq]
        simp [seqP_ok, seqP_t, seqP_l]
        rw [Ok_seq]
        simp [seqP_len, h1, h2, hr, hc, he]
    · have hq : hEq v v = some (.bl true) := by
        cases v with
        | str x =>
          have hs : PyData.strOk x = true := by cases d <;> exact hv
          unfold hEq
          simp [dOk, hs, pveq]
        | tup xs => cases e1
        | lst xs => cases e2
        | non => rfl
        | bl b => cases b <;> rfl
        | int i => simp
        | _ => cases d <;> exact hv.elim
      simp [hk, e1, e2]
      rw [Ok_seq]
      cases e3 : isP .bool v <;> simp [hk, e1, e2, e3, hq]
end G

set_option Elab.async false
set_option linter.all false
set_option maxRecDepth 100000
set_option maxHeartbeats 1000000
namespace G
open PySem L2 Fx
/-! ### like -/
/-! ### fractions -/
theorem lt_8000 {a : Nat} (h : a < 2 ^ 7000) : a < 2 ^ 8000 := Nat.lt_trans h (Nat.pow_lt_pow_right (by decide) (by decide))
theorem fraction_ok {L : Store} {a b : Nat} (ha : a < 2 ^ 7000) (hb : 0 < b) (hb2 : b < 2 ^ 7000) : g_fraction [.int a, .int b] L = some (.ok (frP (red a b)) L) := by
  refine Ok.eq ?_
  unfold g_fraction
  rw [ok_def]
  unfold b_fraction
  have hg : 0 < Nat.gcd a b := Nat.gcd_pos_of_pos_right a hb
  have hl : (Nat.gcd a b).log2 < 9000 := log2_lt' (by decide) (Nat.lt_of_le_of_lt (Nat.gcd_le_right a hb) (Nat.lt_trans hb2 (Nat.pow_lt_pow_right (by decide) (by decide))))
  have h0 : ¬ ((a : Int) < 0) := by omega
  have hc := divisor_ok (L := L) (a := a) (show b < fuelN from lt_8000 hb2)
  have hz : 2 ≤ sizeLine := by decide
  simp [h0, hc, hg, hl, hz, frP, red]
theorem frac_red {L : Store} {a b : Nat} (ha : a < 2 ^ 7000) (hb : 0 < b) (hb2 : b < 2 ^ 7000) : g__law_frac [.int a, .int b] L = some (.ok (frP (red a b)) L) := frac_ok (lt_8000 ha) hb (lt_8000 hb2)
theorem mulOk {a b : Nat} (ha : a < 2 ^ 3000) (hb : b < 2 ^ 3000) : a.log2 + b.log2 < 1000000 := by
  have h1 := log2_lt' (by decide) ha
  have h2 := log2_lt' (by decide) hb
  omega
section
variable {L : Store} {a b : Fr}
theorem sums_ok {g : DS} (hg : ∀ {a b : Nat}, a < 2 ^ 7000 → 0 < b → b < 2 ^ 7000 → g [.int a, .int b] L = some (.ok (frP (red a b)) L)) (ha : Low a) (hb : Low b) (ka : Bd 3000 a) (kb : Bd 3000 b) :
    Ok (sRet (eCall 2 g (aCons (eOp hAdd (eOp hMulI (eOpH (hIx true) (hE (eVar 0)) (eC (.int 0))) (eOpH (hIx true) (hE (eVar 1)) (eC (.int 1)))) (eOp hMulI (eOpH (hIx true) (hE (eVar 1)) (eC (.int 0))) (eOpH (hIx true) (hE (eVar 0)) (eC (.int 1))))) (aCons (eOp hMulI (eOpH (hIx true) (hE (eVar 0)) (eC (.int 1))) (eOpH (hIx true) (hE (eVar 1)) (eC (.int 1)))) aNil)) []) [.val (frP a), .val (frP b)] L) fun w L' => w = .rt (frP (addF a b)) ∧ L' = L := by
  have hf := hg (a := a.1 * b.2 + b.1 * a.2) (b := a.2 * b.2) (Nat.lt_trans (two_add (mul_lt ka.1 kb.2) (mul_lt kb.1 ka.2)) (Nat.pow_lt_pow_right (by decide) (by decide))) (Nat.mul_pos ha.1 hb.1) (Nat.lt_trans (mul_lt ka.2 kb.2) (Nat.pow_lt_pow_right (by decide) (by decide)))
  have m1 := mulOk ka.1 kb.2
  have m2 := mulOk kb.1 ka.2
  have m3 := mulOk ka.2 kb.2
  simp only [Int.natCast_add, Int.natCast_mul] at hf
  have e : ∀ a : Fr, frP a = .tup [.int a.1, .int a.2] := fun _ => rfl
  rw [e a, e b]
  simp [m1, m2, m3, hf]
  rfl
theorem plus_ok (ha : Low a) (hb : Low b) (ka : Bd 3000 a) (kb : Bd 3000 b) : g_plus [frP a, frP b] L = some (.ok (frP (addF a b)) L) := by
  refine Ok.eq ?_
  unfold g_plus
  rw [ok_def]
  exact (sums_ok fraction_ok ha hb ka kb).imp fun w L' ⟨e, e2⟩ => by subst e; exact ⟨rfl, e2⟩
theorem times_all {g : DS} (hg : ∀ {a b : Nat}, a < 2 ^ 7000 → 0 < b → b < 2 ^ 7000 → g [.int a, .int b] L = some (.ok (frP (red a b)) L)) (ha : Low a) (hb : Low b) (ka : Bd 3000 a) (kb : Bd 3000 b) :
    Ok (sRet (eCall 2 g (aCons (eOp hMulI (eOpH (hIx true) (hE (eVar 0)) (eC (.int 0))) (eOpH (hIx true) (hE (eVar 1)) (eC (.int 0)))) (aCons (eOp hMulI (eOpH (hIx true) (hE (eVar 0)) (eC (.int 1))) (eOpH (hIx true) (hE (eVar 1)) (eC (.int 1)))) aNil)) []) [.val (frP a), .val (frP b)] L) fun w L' => w = .rt (frP (mulF a b)) ∧ L' = L := by
  have hf := hg (a := a.1 * b.1) (b := a.2 * b.2) (Nat.lt_trans (mul_lt ka.1 kb.1) (Nat.pow_lt_pow_right (by decide) (by decide))) (Nat.mul_pos ha.1 hb.1) (Nat.lt_trans (mul_lt ka.2 kb.2) (Nat.pow_lt_pow_right (by decide) (by decide)))
  have m1 := mulOk ka.1 kb.1
  have m3 := mulOk ka.2 kb.2
  simp only [Int.natCast_add, Int.natCast_mul] at hf
  have e : ∀ a : Fr, frP a = .tup [.int a.1, .int a.2] := fun _ => rfl
  rw [e a, e b]
  simp [m1, m3, hf]
  rfl
end
end G

set_option Elab.async false
set_option linter.all false
set_option maxRecDepth 100000
set_option maxHeartbeats 1000000
namespace G
open PySem L2 Fx
abbrev Mix := List (Str × Fr)
def rowP (r : Str × Fr) : PV := .tup [.str r.1, frP r.2]
theorem mixP_rows (ms : Mix) : mixP ms = .tup (ms.map rowP) := rfl
/-- what a mixture's amounts are -/
def AOk (k : Nat) (ms : Mix) : Prop := ∀ r ∈ ms, Low r.2 ∧ Bd k r.2
def sumF (acc : Fr) (ms : Mix) : Fr := ms.foldl (fun a r => addF a r.2) acc
theorem sumF_ok {k : Nat} : ∀ {ms : Mix} {acc : Fr} {j : Nat}, AOk k ms → Low acc → Bd j acc → Low (sumF acc ms) ∧ Bd (j + (k + 1) * ms.length) (sumF acc ms)
  | [], acc, j, _, h1, h2 => ⟨h1, h2.mono (by simp)⟩
  | r :: ms, acc, j, h, h1, h2 => by
    obtain ⟨r1, r2⟩ := h r (by simp)
    obtain ⟨q1, q2⟩ := sumF_ok (ms := ms) (acc := addF acc r.2) (j := j + k + 1) (fun x hx => h x (by simp [hx])) (addF_low h1 r1) (addF_bd h2 r2)
    exact ⟨q1, q2.mono (by rw [List.length_cons, Nat.mul_succ]; omega)⟩
section
variable {L : Store}
theorem sum_loop {g : DS} (hg : ∀ {a b : Fr}, Low a → Low b → Bd 3000 a → Bd 3000 b → g [frP a, frP b] L = some (.ok (frP (addF a b)) L)) {m : SV} {b : Nat} : ∀ (ms : Mix) (acc : Fr) (x y : SV) (k : Nat), AOk b ms → Low acc → Bd k acc → b ≤ 3000 → k + (b + 1) * ms.length ≤ 3000 →
    ∃ x' y', fLoop (gTp (gCns (gNm 2) (gCns (gNm 3) gNls))) (sSet 1 (eCall 2 g (aCons (eVar 1) (aCons (eVar 3) aNil)) [])) (ms.map rowP) [m, .val (frP acc), x, y] L = some (.ok (.nx [m, .val (frP (sumF acc ms)), x', y']) L)
  | [], acc, x, y, k, _, _, _, _, _ => ⟨x, y, rfl⟩
  | r :: ms, acc, x, y, k, h, h1, h2, hb3, hk => by
    obtain ⟨r1, r2⟩ := h r (by simp)
    rw [List.length_cons, Nat.mul_succ] at hk
    have hs := hg h1 r1 (h2.mono (by omega)) (r2.mono (by omega))
    obtain ⟨x', y', e⟩ := sum_loop hg (m := m) ms (addF acc r.2) (.val (.str r.1)) (.val (frP r.2)) (k + b + 1) (fun x hx => h x (by simp [hx])) (addF_low h1 r1) (addF_bd h2 r2) hb3 (by omega)
    refine ⟨x', y', ?_⟩
    rw [List.map_cons]
    unfold fLoop
    have ht : gTp (gCns (gNm 2) (gCns (gNm 3) gNls)) (rowP r) [m, .val (frP acc), x, y] = some [m, .val (frP acc), .val (.str r.1), .val (frP r.2)] := rfl
    have hb : sSet 1 (eCall 2 g (aCons (eVar 1) (aCons (eVar 3) aNil)) []) [m, .val (frP acc), .val (.str r.1), .val (frP r.2)] L = some (.ok (.nx [m, .val (frP (addF acc r.2)), .val (.str r.1), .val (frP r.2)]) L) := by
      refine Ok.eq ?_
      simp [hs]
    rw [ht]
    dsimp only
    rw [hb]
    exact e
theorem low01 : Low (0, 1) := ⟨by decide, by decide⟩
theorem bd01 : Bd 1 (0, 1) := ⟨by decide, by decide⟩
/-! ### put together -/
def findA (ms : Mix) (k : Str) : Option Fr := (ms.find? fun r => decide (r.1 = k)).map (·.2)
def stepJ (ms : Mix) (r : Str × Fr) : Mix := putA ms r.1 (addF ((findA ms r.1).getD (0, 1)) r.2)
theorem look_kvP (ms : Mix) (k : Str) : look (kvP frP ms) (.inr k) = (findA ms k).map frP := by
  unfold look findA kvP
  rw [List.find?_map]
  have e : ((fun kv : Key × PV => decide (kv.1 = (.inr k : Key))) ∘ fun r : Str × Fr => ((.inr r.1 : Key), frP r.2)) = fun r : Str × Fr => decide (r.1 = k) := by
    funext r
    simp
  rw [e]
  cases ms.find? fun r => decide (r.1 = k) <;> rfl
theorem findA_mem {ms : Mix} {k : Str} {a : Fr} (h : findA ms k = some a) : ∃ r ∈ ms, r.2 = a := by
  unfold findA at h
  cases e : ms.find? fun r => decide (r.1 = k) with
  | none => rw [e] at h; cases h
  | some r => rw [e] at h; cases h; exact ⟨r, List.mem_of_find?_eq_some e, rfl⟩
theorem stepJ_ok {j b : Nat} {ms : Mix} {r : Str × Fr} (h : AOk j ms) (hj : 1 ≤ j) (h1 : Low r.2) (h2 : Bd b r.2) : AOk (j + b + 1) (stepJ ms r) ∧ (stepJ ms r).length ≤ ms.length + 1 := by
  refine ⟨fun x hx => ?_, putA_length _ _ _⟩
  rcases putA_mem hx with e | e
  · subst e
    dsimp only
    cases q : findA ms r.1 with
    | none => exact ⟨addF_low low01 h1, (addF_bd bd01 h2).mono (by omega)⟩
    | some a =>
      obtain ⟨y, hy, rfl⟩ := findA_mem q
      obtain ⟨y1, y2⟩ := h y hy
      exact ⟨addF_low y1 h1, addF_bd y2 h2⟩
  · exact ⟨(h x e).1, (h x e).2.mono (by omega)⟩
theorem stepJ_nodup {ms : Mix} {r : Str × Fr} (h : (ms.map (·.1)).Nodup) : ((stepJ ms r).map (·.1)).Nodup := by
  unfold stepJ
  rw [putA_keys]
  split
  · exact h
  · rename_i hk
    rw [List.nodup_append]
    exact ⟨h, by simp, fun x hx y hy e => hk (by rw [List.mem_singleton.mp hy] at e; rw [← e]; exact hx)⟩
theorem join_loop {g : DS} {d : EF} (hg : ∀ {a b : Fr}, Low a → Low b → Bd 3000 a → Bd 3000 b → g [frP a, frP b] L = some (.ok (frP (addF a b)) L)) (hd : ∀ s, d s L = some (.ok (frP (0, 1)) L)) {m n : SV} {b : Nat} : ∀ (ns ms : Mix) (x y : SV) (j : Nat), AOk j ms → 1 ≤ j → AOk b ns → b ≤ 3000 → j ≤ 3000 → j + (b + 1) * ns.length ≤ 3000 → ms.length + ns.length ≤ 1000 →
    ∃ x' y', fLoop (gTp (gCns (gNm 3) (gCns (gNm 4) gNls))) (sPutO true 2 (eVar 3) (eCall 2 g (aCons (eGet true (hOwn 2) (eVar 3) d) (aCons (eVar 4) aNil)) [])) (ns.map rowP) [m, n, .own (.dk (kvP frP ms)), x, y] L = some (.ok (.nx [m, n, .own (.dk (kvP frP (ns.foldl stepJ ms))), x', y']) L)
  | [], ms, x, y, j, _, _, _, _, _, _, _ => ⟨x, y, rfl⟩
  | r :: ns, ms, x, y, j, h, hj, hn, hb3, hj3, hk, hl => by
    obtain ⟨r1, r2⟩ := hn r (by simp)
    rw [List.length_cons, Nat.mul_succ] at hk
    rw [List.length_cons] at hl
    obtain ⟨s1, s2⟩ := stepJ_ok h hj r1 r2
    obtain ⟨x', y', e⟩ := join_loop hg hd (m := m) (n := n) ns (stepJ ms r) (.val (.str r.1)) (.val (frP r.2)) (j + b + 1) s1 (by omega) (fun x hx => hn x (by simp [hx])) hb3 (by omega) (by omega) (by omega)
    refine ⟨x', y', ?_⟩
    rw [List.map_cons]
    unfold fLoop
    have ht : gTp (gCns (gNm 3) (gCns (gNm 4) gNls)) (rowP r) [m, n, .own (.dk (kvP frP ms)), x, y] = some [m, n, .own (.dk (kvP frP ms)), .val (.str r.1), .val (frP r.2)] := rfl
    have hget : dLook' true (.dk (kvP frP ms)) (.str r.1) = some ((findA ms r.1).map frP) := by
      show dLook (.dk (kvP frP ms)) (.str r.1) = _
      show some (look (kvP frP ms) (.inr r.1)) = _
      rw [look_kvP]
    have hlow : Low ((findA ms r.1).getD (0, 1)) ∧ Bd 3000 ((findA ms r.1).getD (0, 1)) := by
      cases q : findA ms r.1 with
      | none => exact ⟨low01, bd01.mono (by decide)⟩
      | some a =>
        obtain ⟨y, hy, rfl⟩ := findA_mem q
        exact ⟨(h y hy).1, (h y hy).2.mono (by omega)⟩
    have hs := hg hlow.1 r1 hlow.2 (r2.mono hb3)
    have hgd : ((findA ms r.1).map frP).getD (frP (0, 1)) = frP ((findA ms r.1).getD (0, 1)) := by cases findA ms r.1 <;> rfl
    have hset : setC true (.dk (kvP frP ms)) (.str r.1) (frP (addF ((findA ms r.1).getD (0, 1)) r.2)) = some (.dk (kvP frP (stepJ ms r))) := by
      show (if (kvP frP ms).length < sizeLine then (keyOf (.str r.1)).map fun k => Cell.dk (Fx.put (kvP frP ms) k (frP (addF ((findA ms r.1).getD (0, 1)) r.2))) else none) = _
      have hz : (kvP frP ms).length < sizeLine := Nat.lt_of_le_of_lt (by unfold kvP; rw [List.length_map]; omega : _ ≤ 1000) (by decide)
      rw [if_pos hz]
      show some (Cell.dk (Fx.put (kvP frP ms) (.inr r.1) (frP (addF ((findA ms r.1).getD (0, 1)) r.2)))) = _
      rw [kvP_put]
      rfl
    have hb : sPutO true 2 (eVar 3) (eCall 2 g (aCons (eGet true (hOwn 2) (eVar 3) d) (aCons (eVar 4) aNil)) []) [m, n, .own (.dk (kvP frP ms)), .val (.str r.1), .val (frP r.2)] L = some (.ok (.nx [m, n, .own (.dk (kvP frP (stepJ ms r))), .val (.str r.1), .val (frP r.2)]) L) := by
      refine Ok.eq ?_
      have i1 : isDv (some (Vw.dk (kvP frP ms))) = true := rfl
      simp [i1, hd, hget, hgd, hs, hset]
    rw [ht]
    dsimp only
    rw [hb]
    exact e
end
end G

set_option Elab.async false
set_option linter.all false
set_option maxRecDepth 100000
set_option maxHeartbeats 1000000
namespace G
open PySem L2 Fx
theorem pairsOf_rows : ∀ ms : Mix, pairsOf (ms.map rowP) = some (kvP frP ms)
  | [] => rfl
  | r :: ms => by
    rw [List.map_cons]
    show (pairsOf (ms.map rowP)).map (((.inr r.1 : Key), frP r.2) :: ·) = _
    rw [pairsOf_rows ms]
    rfl
theorem putA_new {ms : Mix} {k : Str} {a : Fr} (h : k ∉ ms.map (·.1)) : putA ms k a = ms ++ [(k, a)] := by
  unfold putA
  have : ¬ (ms.any fun r => decide (r.1 = k)) = true := fun q => by
    obtain ⟨r, hr, e⟩ := List.any_eq_true.mp q
    exact h (List.mem_map.mpr ⟨r, hr, by simpa using e⟩)
  rw [if_neg this]
theorem findA_new {ms : Mix} {k : Str} (h : k ∉ ms.map (·.1)) : findA ms k = none := by
  unfold findA
  have : ms.find? (fun r => decide (r.1 = k)) = none := List.find?_eq_none.mpr fun r hr e => h (List.mem_map.mpr ⟨r, hr, by simpa using e⟩)
  rw [this]
  rfl
theorem fold_put : ∀ (ms acc : Mix), ((acc ++ ms).map (·.1)).Nodup → (kvP frP ms).foldl (fun acc kv => put acc kv.1 kv.2) (kvP frP acc) = kvP frP (acc ++ ms)
  | [], acc, _ => by simp [kvP]
  | r :: ms, acc, h => by
    have hr : r.1 ∉ acc.map (·.1) := fun q => by
      rw [List.map_append, List.map_cons] at h
      exact (List.nodup_append.mp h).2.2 _ q _ (by simp) rfl
    show (kvP frP ms).foldl (fun acc kv => put acc kv.1 kv.2) (put (kvP frP acc) (.inr r.1) (frP r.2)) = _
    rw [kvP_put, putA_new hr]
    have e : acc ++ [(r.1, r.2)] ++ ms = acc ++ r :: ms := by simp
    rw [fold_put ms (acc ++ [(r.1, r.2)]) (by rw [e]; exact h), e]
theorem mergeP_kvP {ms : Mix} (h : (ms.map (·.1)).Nodup) : mergeP (kvP frP ms) = kvP frP ms := by
  have := fold_put ms [] (by simpa using h)
  simpa [kvP, mergeP] using this
/-! ### mixtures told by their keys -/
def ordM (ms : Mix) : Prop := (ms.map (·.1)).Pairwise (fun a b => ltS a b = true)
theorem ltS_irrefl (x : Str) : ¬ ltS x x = true := fun q => by
  unfold ltS at q
  simp only [decide_eq_true_eq] at q
  exact List.lt_irrefl _ q
theorem ltS_asymm {x y : Str} (h : ltS x y = true) : ¬ ltS y x = true := fun q => by
  unfold ltS at *
  simp only [decide_eq_true_eq] at *
  exact List.lt_asymm h q
theorem ordM_nodup {ms : Mix} (h : ordM ms) : (ms.map (·.1)).Nodup := h.imp fun {a b} q e => by
  subst e
  exact ltS_irrefl _ q
theorem findA_cons (r : Str × Fr) (ms : Mix) (x : Str) : findA (r :: ms) x = if r.1 = x then some r.2 else findA ms x := by
  unfold findA
  rw [List.find?_cons]
  by_cases h : r.1 = x <;> simp [h]
theorem findA_none {ms : Mix} {x : Str} : findA ms x = none ↔ x ∉ ms.map (·.1) := by
  induction ms with
  | nil => simp [findA]
  | cons r ms ih =>
    rw [findA_cons]
    by_cases h : r.1 = x
    · simp [h]
    · rw [if_neg h, ih, List.map_cons, List.mem_cons]
      exact ⟨fun q z => z.elim (fun e => h e.symm) q, fun q z => q (.inr z)⟩
theorem findA_some {ms : Mix} (hn : (ms.map (·.1)).Nodup) {x : Str} {a : Fr} : findA ms x = some a ↔ (x, a) ∈ ms := by
  induction ms with
  | nil => simp [findA]
  | cons r ms ih =>
    have hn' := List.nodup_cons.mp (show (r.1 :: ms.map (·.1)).Nodup from hn)
    rw [findA_cons]
    by_cases h : r.1 = x
    · rw [if_pos h]
      constructor
      · intro q
        cases q
        rw [← h]
        simp
      · intro q
        rcases List.mem_cons.mp q with e | e
        · rw [← e]
        · exact absurd (List.mem_map.mpr ⟨_, e, rfl⟩) (h ▸ hn'.1)
    · rw [if_neg h, ih hn'.2]
      constructor
      · exact fun q => List.mem_cons_of_mem _ q
      · intro q
        rcases List.mem_cons.mp q with e | e
        · exact absurd (by rw [← e]) h
        · exact e
theorem ext_mix : ∀ {a b : Mix}, ordM a → ordM b → (∀ k, findA a k = findA b k) → a = b
  | [], [], _, _, _ => rfl
  | [], r :: b, _, _, h => by
    have := h r.1
    rw [findA_cons, if_pos rfl] at this
    cases this
  | r :: a, [], _, _, h => by
    have := h r.1
    rw [findA_cons, if_pos rfl] at this
    cases this
  | r :: a, s :: b, ha, hb, h => by
    have ha' := List.pairwise_cons.mp (show (r.1 :: a.map (·.1)).Pairwise _ from ha)
    have hb' := List.pairwise_cons.mp (show (s.1 :: b.map (·.1)).Pairwise _ from hb)
    have no : ∀ {l : Mix} {x : Str}, (∀ y ∈ l.map (·.1), ltS x y = true) → findA l x = none := fun {l x} g => findA_none.mpr fun q => ltS_irrefl _ (g x q)
    have hk : r.1 = s.1 := by
      by_cases e : r.1 = s.1
      · exact e
      · exfalso
        have h1 := h r.1
        have h2 := h s.1
        rw [findA_cons, if_pos rfl, findA_cons, if_neg (fun q => e q.symm)] at h1
        rw [findA_cons, if_neg e, findA_cons, if_pos rfl] at h2
        have m1 : r.1 ∈ b.map (·.1) := by
          by_cases q : r.1 ∈ b.map (·.1)
          · exact q
          · rw [findA_none.mpr q] at h1; cases h1
        have m2 : s.1 ∈ a.map (·.1) := by
          by_cases q : s.1 ∈ a.map (·.1)
          · exact q
          · rw [findA_none.mpr q] at h2; cases h2
        exact ltS_asymm (hb'.1 _ m1) (ha'.1 _ m2)
    have hv : r.2 = s.2 := by
      have h1 := h r.1
      rw [findA_cons, if_pos rfl, findA_cons, if_pos hk.symm] at h1
      exact Option.some.inj h1
    have ht : a = b := ext_mix ha'.2 hb'.2 fun k => by
      by_cases e : r.1 = k
      · subst e
        rw [no ha'.1, hk, no hb'.1]
      · have h1 := h k
        rw [findA_cons, if_neg e, findA_cons, if_neg (fun q => e (hk.trans q))] at h1
        exact h1
    rw [ht, Prod.ext hk hv]
def addO (o p : Option Fr) : Option Fr := match p with
  | some b => some (addF (o.getD (0, 1)) b)
  | none => o
theorem findA_put {ms : Mix} {k : Str} {a : Fr} (x : Str) : findA (putA ms k a) x = if k = x then some a else findA ms x := by
  by_cases h : k ∈ ms.map (·.1)
  · have hany : (ms.any fun r => decide (r.1 = k)) = true := by
      obtain ⟨r, hr, rfl⟩ := List.mem_map.mp h
      exact List.any_eq_true.mpr ⟨r, hr, by simp⟩
    unfold putA
    rw [if_pos hany]
    clear hany
    induction ms with
    | nil => simp at h
    | cons r ms ih =>
      rw [List.map_cons, findA_cons, findA_cons]
      by_cases hr : r.1 = k
      · rw [if_pos hr]
        dsimp only
        by_cases hx : k = x
        · rw [if_pos (hr.trans hx), if_pos hx]
        · rw [if_neg (fun q => hx (hr.symm.trans q)), if_neg hx, if_neg (fun q => hx (hr.symm.trans q))]
          by_cases hm : k ∈ ms.map (·.1)
          · rw [ih hm, if_neg hx]
          · have e : (ms.map fun r => if r.1 = k then (r.1, a) else r) = ms := by
              conv => rhs; rw [← List.map_id ms]
              refine List.map_congr_left fun y hy => ?_
              have : ¬ y.1 = k := fun q => hm (List.mem_map.mpr ⟨y, hy, q⟩)
              rw [if_neg this]
              rfl
            rw [e]
      · rw [if_neg hr]
        have hm : k ∈ ms.map (·.1) := by
          rcases List.mem_cons.mp (show k ∈ r.1 :: ms.map (·.1) from h) with q | q
          · exact absurd q.symm hr
          · exact q
        rw [ih hm]
        by_cases hx : k = x
        · rw [if_pos hx, if_neg (fun q => hr (q.trans hx.symm)), if_pos hx]
        · rw [if_neg hx, if_neg hx]
  · rw [putA_new h]
    induction ms with
    | nil => simp [findA_cons, findA]
    | cons r ms ih =>
      have hr : ¬ r.1 = k := fun q => h (by simp [q])
      have hm : k ∉ ms.map (·.1) := fun q => h (by rw [List.map_cons]; exact List.mem_cons_of_mem _ q)
      rw [List.cons_append, findA_cons, findA_cons, ih hm]
      by_cases hx : k = x
      · rw [if_pos hx, if_neg (fun q => hr (q.trans hx.symm)), if_pos hx]
      · rw [if_neg hx, if_neg hx]
theorem find_fold : ∀ (ns ms : Mix) (x : Str), (ns.map (·.1)).Nodup → findA (ns.foldl stepJ ms) x = addO (findA ms x) (findA ns x)
  | [], ms, x, _ => rfl
  | r :: ns, ms, x, hn => by
    have hn' := List.nodup_cons.mp (show (r.1 :: ns.map (·.1)).Nodup from hn)
    rw [List.foldl_cons, find_fold ns _ x hn'.2, findA_cons]
    unfold stepJ
    rw [findA_put]
    by_cases h : r.1 = x
    · subst h
      rw [if_pos rfl, if_pos rfl, findA_none.mpr hn'.1]
      rfl
    · rw [if_neg h, if_neg h]
theorem stepJ_keys {ms : Mix} {r : Str × Fr} {x : Str} (h : x ∈ (stepJ ms r).map (·.1)) : x = r.1 ∨ x ∈ ms.map (·.1) := by
  unfold stepJ at h
  rw [putA_keys] at h
  split at h
  · exact .inr h
  · rcases List.mem_append.mp h with q | q
    · exact .inr q
    · exact .inl (by simpa using q)
theorem foldJ_nodup : ∀ (ns ms : Mix), (ms.map (·.1)).Nodup → ((ns.foldl stepJ ms).map (·.1)).Nodup ∧ (ns.foldl stepJ ms).length ≤ ms.length + ns.length ∧ ∀ x ∈ (ns.foldl stepJ ms).map (·.1), x ∈ ms.map (·.1) ∨ x ∈ ns.map (·.1)
  | [], ms, h => ⟨h, by simp, fun x hx => .inl hx⟩
  | r :: ns, ms, h => by
    obtain ⟨q1, q2, q3⟩ := foldJ_nodup ns (stepJ ms r) (stepJ_nodup h)
    refine ⟨q1, ?_, fun x hx => ?_⟩
    · have := putA_length ms r.1 (addF ((findA ms r.1).getD (0, 1)) r.2)
      have e : (stepJ ms r).length ≤ ms.length + 1 := this
      rw [List.foldl_cons, List.length_cons]
      omega
    · rcases q3 x hx with q | q
      · rcases stepJ_keys q with z | z
        · exact .inr (by simp [z])
        · exact .inl z
      · exact .inr (by rw [List.map_cons]; exact List.mem_cons_of_mem _ q)
theorem addO_ok {i j : Nat} {o p : Option Fr} {a : Fr} (h : addO o p = some a) (h1 : ∀ a, o = some a → Low a ∧ Bd i a) (h2 : ∀ a, p = some a → Low a ∧ Bd j a) (hi : 1 ≤ i) : Low a ∧ Bd (i + j + 1) a := by
  unfold addO at h
  cases p with
  | none => exact ⟨(h1 a h).1, (h1 a h).2.mono (by omega)⟩
  | some b =>
    cases h
    obtain ⟨b1, b2⟩ := h2 b rfl
    cases o with
    | none => exact ⟨addF_low low01 b1, (addF_bd bd01 b2).mono (by omega)⟩
    | some c => exact ⟨addF_low (h1 c rfl).1 b1, addF_bd (h1 c rfl).2 b2⟩
theorem findA_A {k : Nat} {ms : Mix} (h : AOk k ms) : ∀ x a, findA ms x = some a → Low a ∧ Bd k a := fun x a e => by
  obtain ⟨r, hr, rfl⟩ := findA_mem e
  exact h r hr
section
variable {L : Store}
end
/-! ### laws of addO -/
theorem addO_comm {i : Nat} {o p : Option Fr} (h1 : ∀ a, o = some a → Low a ∧ Bd i a) (h2 : ∀ a, p = some a → Low a ∧ Bd i a) : addO o p = addO p o := by
  cases o with
  | none =>
    cases p with
    | none => rfl
    | some b => show some (addF (0, 1) b) = some b; rw [zero_add (h2 b rfl).1]
  | some a =>
    have ha := (h1 a rfl).1
    cases p with
    | none => show some a = some (addF (0, 1) a); rw [zero_add ha]
    | some b =>
      have hb := (h2 b rfl).1
      show some (addF a b) = some (addF b a)
      congr 1
      refine low_ext (addF_low ha hb) (addF_low hb ha) ?_
      rw [val_add ha hb, val_add hb ha]
      grind
theorem addO_assoc {i j k : Nat} {o p q : Option Fr} (h1 : ∀ a, o = some a → Low a ∧ Bd i a) (h2 : ∀ a, p = some a → Low a ∧ Bd j a) (h3 : ∀ a, q = some a → Low a ∧ Bd k a) : addO (addO o p) q = addO o (addO p q) := by
  cases q with
  | none => rfl
  | some c =>
    have hc := (h3 c rfl).1
    cases p with
    | none =>
      show some (addF (o.getD (0, 1)) c) = some (addF (o.getD (0, 1)) (addF (0, 1) c))
      rw [zero_add hc]
    | some b =>
      have hb := (h2 b rfl).1
      have ho : Low (o.getD (0, 1)) := by
        cases o with
        | none => exact low01
        | some a => exact (h1 a rfl).1
      show some (addF (addF (o.getD (0, 1)) b) c) = some (addF (o.getD (0, 1)) (addF b c))
      congr 1
      refine low_ext (addF_low (addF_low ho hb) hc) (addF_low ho (addF_low hb hc)) ?_
      rw [val_add (addF_low ho hb) hc, val_add ho hb, val_add ho (addF_low hb hc), val_add hb hc]
      grind
end G

set_option Elab.async false
set_option linter.all false
set_option maxRecDepth 100000
set_option maxHeartbeats 1000000
namespace G
open PySem L2 Fx
mutual
theorem pveq_refl : ∀ {d : Nat} {v : PV}, Pl d v → pveq v v = true
  | _, .non, _ => rfl
  | _, .bl b, _ => by simp [pveq]
  | _, .int i, _ => by simp [pveq]
  | _, .str x, _ => by simp [pveq]
  | 0, .tup xs, h => h.elim
  | d + 1, .tup xs, h => by
    simp only [pveq]
    exact pveqs_refl (d := d) h.2
  | 0, .lst xs, h => h.elim
  | d + 1, .lst xs, h => by
    simp only [pveq]
    exact pveqs_refl (d := d) h.2
  | d, .dk _ _, h => by cases d <;> exact h.elim
  | d, .dt _ _, h => by cases d <;> exact h.elim
  | d, .loc _, h => by cases d <;> exact h.elim
  | d, .scr _, h => by cases d <;> exact h.elim
theorem pveqs_refl : ∀ {d : Nat} {xs : List PV}, (∀ x ∈ xs, Pl d x) → pveqs xs xs = true
  | _, [], _ => rfl
  | d, x :: xs, h => by
    simp only [pveqs, pveq_refl (h x (by simp)), pveqs_refl (d := d) (fun y hy => h y (List.mem_cons_of_mem x hy)), Bool.and_self]
end
mutual
theorem pl_dOk : ∀ {d : Nat} {v : PV}, Pl d v → ∀ n, d ≤ n → dOk n v = true
  | _, .non, _, n, _ => by cases n <;> rfl
  | _, .bl b, _, n, _ => by cases n <;> rfl
  | _, .int i, _, n, _ => by cases n <;> rfl
  | d, .str x, h, n, _ => by
    have h : PyData.strOk x = true := by cases d <;> exact h
    cases n <;> simpa [dOk] using h
  | 0, .tup xs, h, _, _ => h.elim
  | d + 1, .tup xs, h, 0, hn => absurd hn (by omega)
  | d + 1, .tup xs, h, n + 1, hn => by
    show dOks n xs = true
    exact pl_dOks h.2 n (by omega)
  | 0, .lst xs, h, _, _ => h.elim
  | d + 1, .lst xs, h, 0, hn => absurd hn (by omega)
  | d + 1, .lst xs, h, n + 1, hn => by
    show dOks n xs = true
    exact pl_dOks h.2 n (by omega)
  | d, .dk _ _, h, _, _ => by cases d <;> exact h.elim
  | d, .dt _ _, h, _, _ => by cases d <;> exact h.elim
  | d, .loc _, h, _, _ => by cases d <;> exact h.elim
  | d, .scr _, h, _, _ => by cases d <;> exact h.elim
theorem pl_dOks : ∀ {d : Nat} {xs : List PV}, (∀ x ∈ xs, Pl d x) → ∀ n, d ≤ n → dOks n xs = true
  | _, [], _, n, _ => by simp [dOks]
  | d, x :: xs, h, n, hn => by
    simp only [dOks, pl_dOk (h x (by simp)) n hn, pl_dOks (d := d) (fun y hy => h y (List.mem_cons_of_mem x hy)) n hn, Bool.and_self]
end
theorem pl_eq {d : Nat} {v : PV} (h : Pl d v) (hd : d ≤ 64) : hEq v v = some (.bl true) ∧ hNe v v = some (.bl false) := by
  have e1 := pl_dOk h 64 hd
  have e2 := pveq_refl h
  unfold hEq hNe
  simp [e1, e2]
theorem pl_fr (a : Fr) : Pl 1 (frP a) := ⟨by simp, fun x hx => by simp at hx; rcases hx with rfl | rfl <;> exact True.intro⟩
theorem Pl.mono : ∀ {d d' : Nat} {v : PV}, Pl d v → d ≤ d' → Pl d' v
  | d, d', .non, _, _ => by cases d' <;> exact True.intro
  | d, d', .bl _, _, _ => by cases d' <;> exact True.intro
  | d, d', .int _, _, _ => by cases d' <;> exact True.intro
  | d, d', .str x, h, _ => by
    have h : PyData.strOk x = true := by cases d <;> exact h
    cases d' <;> exact h
  | 0, _, .tup xs, h, _ => h.elim
  | d + 1, 0, .tup xs, h, hd => absurd hd (by omega)
  | d + 1, d' + 1, .tup xs, h, hd => ⟨h.1, fun x hx => Pl.mono (h.2 x hx) (Nat.le_of_succ_le_succ hd)⟩
  | 0, _, .lst xs, h, _ => h.elim
  | d + 1, 0, .lst xs, h, hd => absurd hd (by omega)
  | d + 1, d' + 1, .lst xs, h, hd => ⟨h.1, fun x hx => Pl.mono (h.2 x hx) (Nat.le_of_succ_le_succ hd)⟩
  | d, _, .dk _ _, h, _ => by cases d <;> exact h.elim
  | d, _, .dt _ _, h, _ => by cases d <;> exact h.elim
  | d, _, .loc _, h, _ => by cases d <;> exact h.elim
  | d, _, .scr _, h, _ => by cases d <;> exact h.elim
def KOk (ms : Mix) : Prop := ∀ r ∈ ms, PyData.strOk r.1 = true
theorem pl_mix {ms : Mix} (h : KOk ms) (hl : ms.length ≤ 1000) : Pl 3 (mixP ms) := by
  refine ⟨by rw [List.length_map]; exact hl, fun x hx => ?_⟩
  obtain ⟨r, hr, rfl⟩ := List.mem_map.mp hx
  refine ⟨by simp, fun y hy => ?_⟩
  simp at hy
  rcases hy with rfl | rfl
  · exact h r hr
  · exact pl_fr _
/-! ### taken -/
def partM (ms : Mix) (s : Fr) : Mix := ms.map fun r => (r.1, mulF r.2 s)
def shP (ms : Mix) (s : Fr) : PV := if s = (0, 1) then .tup [] else mixP (partM ms s)
theorem pl_sh {ms : Mix} {s : Fr} (h : KOk ms) (hl : ms.length ≤ 1000) : Pl 3 (shP ms s) := by
  unfold shP
  split
  · exact ⟨by simp, fun x hx => by simp at hx⟩
  · refine pl_mix (fun r hr => ?_) (by unfold partM; rw [List.length_map]; exact hl)
    obtain ⟨q, hq, rfl⟩ := List.mem_map.mp hr
    exact h q hq
section
variable {L : Store}
theorem fr_ne (a b : Fr) : hNe (frP a) (frP b) = some (.bl (!decide (a = b))) := by
  obtain ⟨a1, a2⟩ := a
  obtain ⟨b1, b2⟩ := b
  show some (PV.bl (!(pveqs [.int a1, .int a2] [.int b1, .int b2]))) = _
  congr 2
  simp [pveqs, pveq]
  rw [Bool.eq_iff_iff]
  simp
  omega
theorem fr_eq (a b : Fr) : hEq (frP a) (frP b) = some (.bl (decide (a = b))) := by
  obtain ⟨a1, a2⟩ := a
  obtain ⟨b1, b2⟩ := b
  show some (PV.bl (pveqs [.int a1, .int a2] [.int b1, .int b2])) = _
  congr 2
  simp [pveqs, pveq]
  rw [Bool.eq_iff_iff]
  simp
  omega
end
/-! ### shares, told by keys -/
def shM (ms : Mix) (s : Fr) : Mix := if s = (0, 1) then [] else partM ms s
theorem shP_eq (ms : Mix) (s : Fr) : shP ms s = mixP (shM ms s) := by
  unfold shP shM
  split <;> rfl
theorem part_find (ms : Mix) (s : Fr) (x : Str) : findA (partM ms s) x = (findA ms x).map fun a => mulF a s := by
  induction ms with
  | nil => rfl
  | cons r ms ih =>
    show findA ((r.1, mulF r.2 s) :: partM ms s) x = _
    rw [findA_cons, findA_cons, ih]
    by_cases h : r.1 = x
    · rw [if_pos h, if_pos h]; rfl
    · rw [if_neg h, if_neg h]
theorem shM_find (ms : Mix) (s : Fr) (x : Str) : findA (shM ms s) x = if s = (0, 1) then none else (findA ms x).map fun a => mulF a s := by
  unfold shM
  split
  · rfl
  · exact part_find ms s x
theorem part_keys (ms : Mix) (s : Fr) : (partM ms s).map (·.1) = ms.map (·.1) := by
  unfold partM
  rw [List.map_map]
  rfl
theorem shM_ord {ms : Mix} {s : Fr} (h : ordM ms) : ordM (shM ms s) := by
  unfold shM
  split
  · exact List.Pairwise.nil
  · unfold ordM
    rw [part_keys]
    exact h
theorem shM_len (ms : Mix) (s : Fr) : (shM ms s).length ≤ ms.length := by
  unfold shM
  split
  · simp
  · simp [partM]
theorem shM_A {i j : Nat} {ms : Mix} {s : Fr} (h : AOk i ms) (h1 : Low s) (h2 : Bd j s) : AOk (i + j) (shM ms s) := by
  unfold shM
  split
  · exact fun r hr => by simp at hr
  · intro r hr
    obtain ⟨q, hq, rfl⟩ := List.mem_map.mp hr
    exact ⟨mulF_low (h q hq).1 h1, mulF_bd (h q hq).2 h2⟩
theorem shM_K {ms : Mix} {s : Fr} (h : KOk ms) : KOk (shM ms s) := by
  unfold shM
  split
  · exact fun r hr => by simp at hr
  · intro r hr
    obtain ⟨q, hq, rfl⟩ := List.mem_map.mp hr
    exact h q hq
/-- what a mixture is worth in all -/
def sumR : Mix → Rat
  | [] => 0
  | r :: ms => val r.2 + sumR ms
theorem sumF_val {k : Nat} : ∀ {ms : Mix} {acc : Fr}, AOk k ms → Low acc → val (sumF acc ms) = val acc + sumR ms
  | [], acc, _, _ => by show val acc = val acc + 0; grind
  | r :: ms, acc, h, h1 => by
    have hr := (h r (by simp)).1
    show val (sumF (addF acc r.2) ms) = val acc + (val r.2 + sumR ms)
    rw [sumF_val (fun x hx => h x (by simp [hx])) (addF_low h1 hr), val_add h1 hr]
    grind
theorem sumR_part {k : Nat} : ∀ {ms : Mix} {s : Fr}, AOk k ms → Low s → sumR (partM ms s) = sumR ms * val s
  | [], s, _, _ => by show (0 : Rat) = 0 * val s; grind
  | r :: ms, s, h, h1 => by
    have hr := (h r (by simp)).1
    show val (mulF r.2 s) + sumR (partM ms s) = (val r.2 + sumR ms) * val s
    rw [sumR_part (fun x hx => h x (by simp [hx])) h1, val_mul hr h1]
    grind
theorem sumR_sh {k : Nat} {ms : Mix} {s : Fr} (h : AOk k ms) (h1 : Low s) : sumR (shM ms s) = sumR ms * val s := by
  unfold shM
  split
  · rename_i e
    rw [(val_zero h1).mpr e]
    show (0 : Rat) = _
    grind
  · exact sumR_part h h1
theorem sumR_append (a b : Mix) : sumR (a ++ b) = sumR a + sumR b := by
  induction a with
  | nil => show sumR b = 0 + sumR b; grind
  | cons r a ih =>
    show val r.2 + sumR (a ++ b) = val r.2 + sumR a + sumR b
    rw [ih]
    grind
theorem sumR_perm {a b : Mix} (h : a.Perm b) : sumR a = sumR b := by
  induction h with
  | nil => rfl
  | cons x _ ih => show val x.2 + _ = val x.2 + _; rw [ih]
  | swap x y l => show val y.2 + (val x.2 + sumR l) = val x.2 + (val y.2 + sumR l); grind
  | trans _ _ h1 h2 => exact h1.trans h2
/-- a key's row taken out -/
theorem sumR_take {ms : Mix} {k : Str} {a : Fr} (hn : (ms.map (·.1)).Nodup) (h : findA ms k = some a) : sumR ms = val a + sumR (ms.filter fun r => !decide (r.1 = k)) := by
  induction ms with
  | nil => simp [findA] at h
  | cons r ms ih =>
    have hn' := List.nodup_cons.mp (show (r.1 :: ms.map (·.1)).Nodup from hn)
    rw [findA_cons] at h
    by_cases e : r.1 = k
    · rw [if_pos e] at h
      cases h
      have : ms.filter (fun r => !decide (r.1 = k)) = ms := List.filter_eq_self.mpr fun x hx => by
        have : ¬ x.1 = k := fun q => hn'.1 (by rw [e, ← q]; exact List.mem_map.mpr ⟨x, hx, rfl⟩)
        simp [this]
      rw [List.filter_cons, if_neg (by simp [e]), this]
      rfl
    · rw [if_neg e] at h
      rw [List.filter_cons, if_pos (by simp [e])]
      show val r.2 + sumR ms = val a + (val r.2 + sumR _)
      rw [ih hn'.2 h]
      grind
theorem find_filter {ms : Mix} {k x : Str} : findA (ms.filter fun r => !decide (r.1 = k)) x = if k = x then none else findA ms x := by
  induction ms with
  | nil => simp [findA]
  | cons r ms ih =>
    rw [List.filter_cons]
    by_cases e : r.1 = k
    · rw [if_neg (by simp [e]), ih, findA_cons]
      by_cases h : k = x
      · rw [if_pos h, if_pos h]
      · rw [if_neg h, if_neg h, if_neg (fun q => h (e.symm.trans q))]
    · rw [if_pos (by simp [e]), findA_cons, ih, findA_cons]
      by_cases h : k = x
      · rw [if_pos h, if_pos h, if_neg (fun q => e (q.trans h.symm))]
      · rw [if_neg h, if_neg h]
theorem nodup_filter {ms : Mix} {p : Str × Fr → Bool} (h : (ms.map (·.1)).Nodup) : ((ms.filter p).map (·.1)).Nodup := (List.filter_sublist.map _).nodup h
theorem sumR_ext : ∀ (n : Nat) {a b : Mix}, a.length ≤ n → (a.map (·.1)).Nodup → (b.map (·.1)).Nodup → (∀ k, findA a k = findA b k) → sumR a = sumR b
  | n, [], [], _, _, _, _ => rfl
  | n, [], r :: b, _, _, _, h => by
    have := h r.1
    rw [findA_cons, if_pos rfl] at this
    cases this
  | 0, r :: a, b, hl, _, _, _ => by simp at hl
  | n + 1, r :: a, b, hl, ha, hb, h => by
    have ha' := List.nodup_cons.mp (show (r.1 :: a.map (·.1)).Nodup from ha)
    have hr : findA b r.1 = some r.2 := by rw [← h r.1, findA_cons, if_pos rfl]
    rw [sumR_take hb hr]
    show val r.2 + sumR a = _
    congr 1
    refine sumR_ext n (by simpa using hl) ha'.2 (nodup_filter hb) fun k => ?_
    rw [find_filter]
    by_cases e : r.1 = k
    · subst e
      rw [if_pos rfl, findA_none.mpr ha'.1]
    · rw [if_neg e, ← h k, findA_cons, if_neg e]
theorem sumR_step {k : Nat} {ms : Mix} {r : Str × Fr} (hn : (ms.map (·.1)).Nodup) (h : AOk k ms) (hr : Low r.2) : sumR (stepJ ms r) = sumR ms + val r.2 := by
  have hn2 := stepJ_nodup (r := r) hn
  have hf : findA (stepJ ms r) r.1 = some (addF ((findA ms r.1).getD (0, 1)) r.2) := by unfold stepJ; rw [findA_put, if_pos rfl]
  rw [sumR_take hn2 hf]
  have hrest : sumR ((stepJ ms r).filter fun x => !decide (x.1 = r.1)) = sumR (ms.filter fun x => !decide (x.1 = r.1)) := sumR_ext _ (Nat.le_refl _) (nodup_filter hn2) (nodup_filter hn) fun k => by
    rw [find_filter, find_filter]
    by_cases e : r.1 = k
    · rw [if_pos e, if_pos e]
    · rw [if_neg e, if_neg e]
      unfold stepJ
      rw [findA_put, if_neg e]
  rw [hrest]
  cases q : findA ms r.1 with
  | none =>
    have : ms.filter (fun x => !decide (x.1 = r.1)) = ms := List.filter_eq_self.mpr fun x hx => by
      have : ¬ x.1 = r.1 := fun z => findA_none.mp q (by rw [← z]; exact List.mem_map.mpr ⟨x, hx, rfl⟩)
      simp [this]
    rw [this, Option.getD_none, zero_add hr]
    grind
  | some a =>
    obtain ⟨y, hy, rfl⟩ := findA_mem q
    rw [sumR_take hn q, Option.getD_some, val_add (h y hy).1 hr]
    grind
theorem sumR_fold {b : Nat} : ∀ (ns ms : Mix) (k : Nat), (ms.map (·.1)).Nodup → AOk k ms → 1 ≤ k → AOk b ns → sumR (ns.foldl stepJ ms) = sumR ms + sumR ns
  | [], ms, k, _, _, _, _ => by show sumR ms = sumR ms + 0; grind
  | r :: ns, ms, k, hn, h, hk, hb => by
    obtain ⟨r1, r2⟩ := hb r (by simp)
    rw [List.foldl_cons, sumR_fold ns (stepJ ms r) (k + b + 1) (stepJ_nodup hn) (stepJ_ok h hk r1 r2).1 (by omega) (fun x hx => hb x (by simp [hx])), sumR_step hn h r1]
    show sumR ms + val r.2 + sumR ns = sumR ms + (val r.2 + sumR ns)
    grind
/-- the sum of what is put together -/
theorem sumR_join {i j : Nat} {one other ms : Mix} (n1 : ordM one) (n2 : ordM other) (n3 : ordM ms) (h1 : AOk i one) (hi : 1 ≤ i) (h2 : AOk j other) (h : ∀ x, findA ms x = addO (findA one x) (findA other x)) : sumR ms = sumR one + sumR other := by
  rw [← sumR_fold other one i (ordM_nodup n1) h1 hi h2]
  exact sumR_ext _ (Nat.le_refl _) (ordM_nodup n3) (foldJ_nodup other one (ordM_nodup n1)).1 fun k => by rw [h, find_fold other one k (ordM_nodup n2)]
end G

set_option Elab.async false
set_option linter.all false
set_option maxRecDepth 100000
set_option maxHeartbeats 1000000
namespace G
open PySem L2 Fx
theorem val_nn (a : Fr) : 0 ≤ val a := by
  unfold val
  by_cases h : a.2 = 0
  · rw [h]
    have : (a.1 : Rat) / ((0 : Nat) : Rat) = 0 := by
      push_cast
      rw [Rat.div_def, Rat.inv_zero, Rat.mul_zero]
    rw [this]
    exact Rat.le_refl
  · rw [Rat.div_def]
    exact Rat.mul_nonneg (by exact_mod_cast Nat.zero_le _) (Rat.le_of_lt (Rat.inv_pos.mpr (by exact_mod_cast Nat.pos_of_ne_zero h)))
theorem low11 : Low (1, 1) := ⟨by decide, by decide⟩
theorem val11 : val (1, 1) = 1 := by
  unfold val
  push_cast
  grind
theorem val01 : val (0, 1) = 0 := (val_zero low01).mpr rfl
def PosM (ms : Mix) : Prop := ∀ r ∈ ms, 0 < val r.2
theorem mix_pos {ms : Mix} (h : MixOk ms) : PosM ms := fun r hr => by
  obtain ⟨_, a1, a2, a3, a4, a5⟩ := h.2 r hr
  have := val_lt low01 (show Low r.2 from ⟨a3, a5⟩)
  rw [val01] at this
  exact this.mpr (by omega)
theorem sumR_nn : ∀ ms : Mix, 0 ≤ sumR ms
  | [] => Rat.le_refl
  | r :: ms => by
    have h1 := val_nn r.2
    have h2 := sumR_nn ms
    show 0 ≤ val r.2 + sumR ms
    grind
theorem sumR_pos : ∀ {ms : Mix}, PosM ms → ms ≠ [] → 0 < sumR ms
  | [], _, h => absurd rfl h
  | r :: ms, h, _ => by
    have h1 := h r (by simp)
    have h2 := sumR_nn ms
    show 0 < val r.2 + sumR ms
    grind
theorem whole_ok {b : Nat} {ms : Mix} (h : AOk b ms) : Low (sumF (0, 1) ms) ∧ val (sumF (0, 1) ms) = sumR ms ∧ Bd (1 + (b + 1) * ms.length) (sumF (0, 1) ms) := by
  obtain ⟨h1, h2⟩ := sumF_ok (acc := (0, 1)) h low01 bd01
  refine ⟨h1, ?_, h2⟩
  rw [sumF_val h low01, val01]
  grind
theorem mix_AOk {ms : Mix} (h : MixOk ms) : AOk 20 ms := fun r hr => by
  obtain ⟨_, a1, a2, a3, a4, a5⟩ := h.2 r hr
  exact ⟨⟨a3, a5⟩, Nat.lt_of_le_of_lt a2 (by decide), Nat.lt_of_le_of_lt a4 (by decide)⟩
theorem mix_KOk {ms : Mix} (h : MixOk ms) : KOk ms := fun r hr => by
  have h1 := (h.2 r hr).1
  unfold PULPS at h1
  simp at h1
  rcases h1 with e | e | e | e | e | e | e | e <;> rw [e] <;> decide +kernel
theorem join_K {one other ms : Mix} (h1 : KOk one) (h2 : KOk other) (h : ∀ x ∈ ms.map (·.1), x ∈ one.map (·.1) ∨ x ∈ other.map (·.1)) : KOk ms := fun r hr => by
  rcases h r.1 (List.mem_map.mpr ⟨r, hr, rfl⟩) with q | q
  · obtain ⟨y, hy, e⟩ := List.mem_map.mp q
    rw [← e]
    exact h1 y hy
  · obtain ⟨y, hy, e⟩ := List.mem_map.mp q
    rw [← e]
    exact h2 y hy
end G

set_option Elab.async false
set_option linter.all false
set_option maxRecDepth 100000
set_option maxHeartbeats 1000000
namespace G
open PySem L2 Fx
abbrev Gr := List (Str × (Nat × Nat))
def gRowP (r : Str × (Nat × Nat)) : PV := .tup [.str r.1, .int r.2.1, .int r.2.2]
def gradeN (gs : Gr) : PV := .tup (gs.map gRowP)
def bdP (x : Fr × Fr) : PV := .tup [frP x.1, frP x.2]
def bndF (r : Str × (Nat × Nat)) : Fr × Fr := (red r.2.1 100, red r.2.2 100)
def stB (acc : List (Str × (Fr × Fr))) (r : Str × (Nat × Nat)) : List (Str × (Fr × Fr)) := putA acc r.1 (bndF r)
def bndL (gs : Gr) (ks : List Str) : List (Str × (Fr × Fr)) := gs.foldl stB (ks.map fun k => (k, ((0, 1), (0, 1))))
def GrOk (gs : Gr) : Prop := (gs.map (·.1)).Nodup ∧ ∀ r ∈ gs, r.2.1 ≤ 100 ∧ r.2.2 ≤ 100
theorem bounds_loop {L : Store} {m n : SV} : ∀ (gs : Gr) (acc : List (Str × (Fr × Fr))) (x y z : SV), (∀ r ∈ gs, r.2.1 ≤ 100 ∧ r.2.2 ≤ 100) → acc.length + gs.length ≤ 1000 →
    ∃ x' y' z', fLoop (gTp (gCns (gNm 2) (gCns (gNm 4) (gCns (gNm 5) gNls)))) (sPutO true 3 (eVar 2) (eTup (aCons (eCall 2 g_fraction (aCons (eVar 4) (aCons (eC (.int 100)) aNil)) []) (aCons (eCall 2 g_fraction (aCons (eVar 5) (aCons (eC (.int 100)) aNil)) []) aNil)))) (gs.map gRowP) [m, n, x, .own (.dk (kvP bdP acc)), y, z] L = some (.ok (.nx [m, n, x', .own (.dk (kvP bdP (gs.foldl stB acc))), y', z']) L)
  | [], acc, x, y, z, _, _ => ⟨x, y, z, rfl⟩
  | r :: gs, acc, x, y, z, h, hl => by
    obtain ⟨r1, r2⟩ := h r (by simp)
    rw [List.length_cons] at hl
    obtain ⟨x', y', z', e⟩ := bounds_loop (L := L) (m := m) (n := n) gs (stB acc r) (.val (.str r.1)) (.val (.int r.2.1)) (.val (.int r.2.2)) (fun x hx => h x (by simp [hx])) (by have := putA_length acc r.1 (bndF r); unfold stB; omega)
    refine ⟨x', y', z', ?_⟩
    rw [List.map_cons]
    unfold fLoop
    have ht : gTp (gCns (gNm 2) (gCns (gNm 4) (gCns (gNm 5) gNls))) (gRowP r) [m, n, x, .own (.dk (kvP bdP acc)), y, z] = some [m, n, .val (.str r.1), .own (.dk (kvP bdP acc)), .val (.int r.2.1), .val (.int r.2.2)] := rfl
    have f1 := fraction_ok (L := L) (a := r.2.1) (b := 100) (Nat.lt_of_le_of_lt (by omega : _ ≤ 2 ^ 100) (Nat.pow_lt_pow_right (by decide) (by decide))) (by decide) (Nat.lt_of_le_of_lt (by decide : _ ≤ 2 ^ 100) (Nat.pow_lt_pow_right (by decide) (by decide)))
    have f2 := fraction_ok (L := L) (a := r.2.2) (b := 100) (Nat.lt_of_le_of_lt (by omega : _ ≤ 2 ^ 100) (Nat.pow_lt_pow_right (by decide) (by decide))) (by decide) (Nat.lt_of_le_of_lt (by decide : _ ≤ 2 ^ 100) (Nat.pow_lt_pow_right (by decide) (by decide)))
    have f1 : g_fraction [.int r.2.1, .int 100] L = some (.ok (frP (red r.2.1 100)) L) := f1
    have f2 : g_fraction [.int r.2.2, .int 100] L = some (.ok (frP (red r.2.2 100)) L) := f2
    have hs := setC_kv (kt := true) (f := bdP) (ms := acc) (k := r.1) (a := bndF r) (by omega)
    have hs : setC true (.dk (kvP bdP acc)) (.str r.1) (.tup [frP (red r.2.1 100), frP (red r.2.2 100)]) = some (.dk (kvP bdP (stB acc r))) := hs
    have z2 : 2 ≤ sizeLine := by decide
    have hb : sPutO true 3 (eVar 2) (eTup (aCons (eCall 2 g_fraction (aCons (eVar 4) (aCons (eC (.int 100)) aNil)) []) (aCons (eCall 2 g_fraction (aCons (eVar 5) (aCons (eC (.int 100)) aNil)) []) aNil))) [m, n, .val (.str r.1), .own (.dk (kvP bdP acc)), .val (.int r.2.1), .val (.int r.2.2)] L = some (.ok (.nx [m, n, .val (.str r.1), .own (.dk (kvP bdP (stB acc r))), .val (.int r.2.1), .val (.int r.2.2)]) L) := by
      refine Ok.eq ?_
      simp [z2, f1, f2, hs]
    rw [ht]
    dsimp only
    rw [hb]
    exact e
end G

set_option Elab.async false
set_option linter.all false
set_option maxRecDepth 100000
set_option maxHeartbeats 1000000
namespace G
open PySem L2 Fx
section
variable {L : Store} {a b : Fr}
theorem by_ok (ha : Low a) (hb : Low b) (h0 : 0 < b.1) (ka : Bd 3000 a) (kb : Bd 3000 b) : g_by [frP a, frP b] L = some (.ok (frP (divF a b)) L) := by
  refine Ok.eq ?_
  unfold g_by
  rw [ok_def]
  unfold b_by
  have hf := fraction_ok (L := L) (a := a.1 * b.2) (b := a.2 * b.1) (Nat.lt_trans (mul_lt ka.1 kb.2) (Nat.pow_lt_pow_right (by decide) (by decide))) (Nat.mul_pos ha.1 h0) (Nat.lt_trans (mul_lt ka.2 kb.1) (Nat.pow_lt_pow_right (by decide) (by decide)))
  have m1 := mulOk ka.1 kb.2
  have m3 := mulOk ka.2 kb.1
  simp only [Int.natCast_add, Int.natCast_mul] at hf
  have hp : 0 < (a.2 : Int) * (b.1 : Int) := by
    have := Nat.mul_pos ha.1 h0
    rw [← Int.natCast_mul]
    omega
  have e : ∀ a : Fr, frP a = .tup [.int a.1, .int a.2] := fun _ => rfl
  rw [e a, e b]
  simp [m1, m3, hp, hf]
  rfl
end
end G

set_option Elab.async false
set_option linter.all false
set_option maxRecDepth 100000
set_option maxHeartbeats 1000000
namespace G
open PySem L2 Fx
section
variable {L : Store}
theorem amount_of_ok {b : Nat} {ms : Mix} (h : AOk b ms) (hb : b ≤ 3000) (hl : 1 + (b + 1) * ms.length ≤ 3000) : g_amount_of [mixP ms] L = some (.ok (frP (sumF (0, 1) ms)) L) := by
  refine Ok.eq ?_
  unfold g_amount_of
  rw [ok_def]
  unfold b_amount_of
  obtain ⟨x', y', e⟩ := sum_loop (L := L) (g := g_plus) plus_ok (m := .val (mixP ms)) ms (0, 1) .no .no 1 h low01 bd01 hb hl
  have z : PV.tup [.int 0, .int 1] = frP (0, 1) := rfl
  simp
  rw [Ok_seq]
  rw [z, mixP_rows] at *
  simp [e]
end
end G

set_option Elab.async false
set_option linter.all false
set_option maxRecDepth 100000
set_option maxHeartbeats 1000000
namespace G
open PySem L2 Fx
def shM1 (ms : Mix) (w : Fr) : Mix := ms.map fun r => (r.1, divF r.2 w)
theorem shares_ok {L : Store} {b : Nat} {ms : Mix} {w : Fr} (h : AOk b ms) (o : ordM ms) (hb3 : b ≤ 3000) (hl1 : 1 + (b + 1) * ms.length ≤ 2900) (hl : ms.length ≤ 100) (hw : sumF (0, 1) ms = w) (hw0 : 0 < val w) : g_shares [mixP ms] L = some (.ok (dkP frP (shM1 ms w)) L) := by
  obtain ⟨w1, w2, w3⟩ := whole_ok h
  rw [hw] at w1 w2 w3
  have w0 : 0 < w.1 := by
    have := (val_lt low01 w1).mp (by rw [val01]; exact hw0)
    simpa using this
  have ha := amount_of_ok (L := L) h hb3 (by omega)
  rw [hw] at ha
  refine Ok.eq ?_
  unfold g_shares
  rw [ok_def]
  unfold b_shares
  have hd := dloop_new (t := gTp (gCns (gNm 2) (gCns (gNm 3) gNls))) (gk := eVar 2) (gv := eCall 2 g_by (aCons (eVar 3) (aCons (eVar 1) aNil)) []) (s := [.val (mixP ms), .val (frP w), .no, .no]) (L := L) (f := frP) rowP (fun r => (r.1, divF r.2 w)) ms []
    (fun r hr => ⟨[.val (mixP ms), .val (frP w), .val (.str r.1), .val (frP r.2)], rfl, rfl, by
      obtain ⟨r1, r2⟩ := h r hr
      have := by_ok (L := L) r1 w1 w0 (r2.mono hb3) (w3.mono (by omega))
      refine Ok.eq ?_
      simp [this]⟩) (by simpa using ordM_nodup o) (Nat.le_trans (by simp; omega : _ ≤ 1000) (by decide))
  have it : itemsOf (mixP ms) = some (ms.map rowP) := rfl
  have nn : ([] : List (Key × PV)) = kvP frP [] := rfl
  simp [ha, it]
  rw [nn, hd]
  simp
  rw [kv_dkP]
  rfl
end G

set_option Elab.async false
set_option linter.all false
set_option maxRecDepth 100000
set_option maxHeartbeats 1000000
namespace G
open PySem L2 Fx
def shr (ms : Mix) (w : Fr) (k : Str) : Fr := ((findA ms k).map fun a => divF a w).getD (0, 1)
def inB (s l h : Fr) : Bool := !(decide (s.1 * l.2 < l.1 * s.2) || decide (h.1 * s.2 < s.1 * h.2))
def itB (ms : Mix) (w : Fr) (x : Str × (Fr × Fr)) : Bool := inB (shr ms w x.1) x.2.1 x.2.2
def letsP (gs : Gr) (ms : Mix) : Bool := !decide (ms = []) && (bndL gs (ms.map (·.1))).all (itB ms (sumF (0, 1) ms))
theorem shM1_find (ms : Mix) (w : Fr) (x : Str) : findA (shM1 ms w) x = (findA ms x).map fun a => divF a w := by
  induction ms with
  | nil => rfl
  | cons r ms ih =>
    show findA ((r.1, divF r.2 w) :: shM1 ms w) x = _
    rw [findA_cons, findA_cons, ih]
    by_cases h : r.1 = x
    · rw [if_pos h, if_pos h]; rfl
    · rw [if_neg h, if_neg h]
theorem red_bd {p q : Nat} (hp : p ≤ 100) (hq : q ≤ 100) : Bd 3000 (red p q) := bd_red (Nat.lt_of_le_of_lt (by omega : _ ≤ 2 ^ 100) (Nat.pow_lt_pow_right (by decide) (by decide))) (Nat.lt_of_le_of_lt (by omega : _ ≤ 2 ^ 100) (Nat.pow_lt_pow_right (by decide) (by decide)))
instance {k : Nat} {a : Fr} : Decidable (Bd k a) := inferInstanceAs (Decidable (_ ∧ _))
theorem bndL_mem {gs : Gr} (hg : GrOk gs) {ks : List Str} {x : Str × (Fr × Fr)} (hx : x ∈ bndL gs ks) : Bd 3000 x.2.1 ∧ Bd 3000 x.2.2 := by
  have : (bndL gs ks).all (fun x => decide (Bd 3000 x.2.1 ∧ Bd 3000 x.2.2)) = true := by
    unfold bndL
    have h := fold_all (fun r : Str × (Nat × Nat) => r.1) bndF (fun x => decide (Bd 3000 x.2.1 ∧ Bd 3000 x.2.2)) gs (ks.map fun k => (k, ((0, 1), (0, 1)))) hg.1
    refine h.mpr ⟨fun g hgm => ?_, fun r hr _ => ?_⟩
    · have := hg.2 g hgm
      rw [decide_eq_true_eq]
      exact ⟨red_bd this.1 (by decide), red_bd this.2 (by decide)⟩
    · obtain ⟨k, _, rfl⟩ := List.mem_map.mp hr
      rw [decide_eq_true_eq]
      exact ⟨bd01.mono (by decide), bd01.mono (by decide)⟩
  simpa using List.all_eq_true.mp this x hx
end G

set_option Elab.async false
set_option linter.all false
set_option maxRecDepth 100000
set_option maxHeartbeats 1000000
namespace G
open PySem L2 Fx
/-! fractions with a sign -/
abbrev Fs := Int × Nat
def frS (a : Fs) : PV := .tup [.int a.1, .int a.2]
def redS (p : Int) (q : Nat) : Fs := (p / (Nat.gcd p.natAbs q : Nat), q / Nat.gcd p.natAbs q)
def LowS (a : Fs) : Prop := 0 < a.2 ∧ Nat.gcd a.1.natAbs a.2 = 1
def BdS (k : Nat) (a : Fs) : Prop := a.1.natAbs < 2 ^ k ∧ a.2 < 2 ^ k
def valS (a : Fs) : Rat := (a.1 : Rat) / (a.2 : Rat)
def toS (a : Fr) : Fs := (a.1, a.2)
theorem frS_to (a : Fr) : frS (toS a) = frP a := rfl
theorem lowS_to {a : Fr} (h : Low a) : LowS (toS a) := ⟨h.1, by simpa [toS] using h.2⟩
theorem bdS_to {a : Fr} {k : Nat} (h : Bd k a) : BdS k (toS a) := ⟨by simpa [toS] using h.1, h.2⟩
theorem valS_to (a : Fr) : valS (toS a) = val a := by
  unfold valS val toS
  push_cast
  rfl
theorem BdS.mono {a : Fs} {j k : Nat} (h : BdS j a) (hj : j ≤ k) : BdS k a := ⟨Nat.lt_of_lt_of_le h.1 (Nat.pow_le_pow_right (by decide) hj), Nat.lt_of_lt_of_le h.2 (Nat.pow_le_pow_right (by decide) hj)⟩
theorem gS_pos {p : Int} {q : Nat} (hq : 0 < q) : 0 < Nat.gcd p.natAbs q := Nat.gcd_pos_of_pos_right _ hq
theorem gS_dvd (p : Int) (q : Nat) : ((Nat.gcd p.natAbs q : Nat) : Int) ∣ p := Int.ofNat_dvd_left.mpr (Nat.gcd_dvd_left _ _)
theorem redS_abs {p : Int} {q : Nat} (hq : 0 < q) : (redS p q).1.natAbs = p.natAbs / Nat.gcd p.natAbs q := by
  obtain ⟨c, hc⟩ := gS_dvd p q
  have hg := gS_pos (p := p) hq
  unfold redS
  dsimp only
  generalize Nat.gcd p.natAbs q = g at *
  rw [hc, Int.mul_ediv_cancel_left _ (by omega), Int.natAbs_mul, Int.natAbs_natCast, Nat.mul_div_cancel_left _ hg]
theorem redS_low {p : Int} {q : Nat} (hq : 0 < q) : LowS (redS p q) := by
  have hg := gS_pos (p := p) hq
  refine ⟨Nat.div_pos (Nat.gcd_le_right _ hq) hg, ?_⟩
  rw [redS_abs hq]
  show Nat.gcd (p.natAbs / Nat.gcd p.natAbs q) (q / Nat.gcd p.natAbs q) = 1
  rw [Nat.gcd_div (Nat.gcd_dvd_left _ _) (Nat.gcd_dvd_right _ _), Nat.div_self hg]
theorem redS_bd {p : Int} {q k : Nat} (hq : 0 < q) (h1 : p.natAbs < 2 ^ k) (h2 : q < 2 ^ k) : BdS k (redS p q) := by
  refine ⟨?_, Nat.lt_of_le_of_lt (Nat.div_le_self _ _) h2⟩
  rw [redS_abs hq]
  exact Nat.lt_of_le_of_lt (Nat.div_le_self _ _) h1
theorem valS_red {p : Int} {q : Nat} (hq : 0 < q) : valS (redS p q) = (p : Rat) / (q : Rat) := by
  obtain ⟨c, hc⟩ := gS_dvd p q
  obtain ⟨d, hd⟩ := Nat.gcd_dvd_right p.natAbs q
  have hg := gS_pos (p := p) hq
  have e : redS p q = (c, d) := by
    unfold redS
    generalize Nat.gcd p.natAbs q = g at *
    rw [hc, hd, Int.mul_ediv_cancel_left _ (by omega), Nat.mul_div_cancel_left _ hg]
  rw [e]
  unfold valS
  generalize Nat.gcd p.natAbs q = g at *
  have d0 : 0 < d := by
    rcases Nat.eq_zero_or_pos d with h | h
    · rw [h] at hd; omega
    · exact h
  have r1 := rat_pos d0
  have r2 := rat_pos hg
  rw [hc, hd]
  push_cast
  grind
theorem lowS_ext {a b : Fs} (ha : LowS a) (hb : LowS b) (h : valS a = valS b) : a = b := by
  unfold valS at h
  have h1 := rat_pos ha.1
  have h2 := rat_pos hb.1
  have h3 : (a.1 : Rat) * (b.2 : Rat) = (b.1 : Rat) * (a.2 : Rat) := by grind
  have h4 : a.1 * (b.2 : Int) = b.1 * (a.2 : Int) := by exact_mod_cast h3
  have h5 : a.1.natAbs * b.2 = b.1.natAbs * a.2 := by
    have := congrArg Int.natAbs h4
    rwa [Int.natAbs_mul, Int.natAbs_mul, Int.natAbs_natCast, Int.natAbs_natCast] at this
  have d1 : a.2 ∣ b.2 := (Nat.Coprime.dvd_of_dvd_mul_left (Nat.Coprime.symm ha.2) ⟨b.1.natAbs, by rw [h5, Nat.mul_comm]⟩)
  have d2 : b.2 ∣ a.2 := (Nat.Coprime.dvd_of_dvd_mul_left (Nat.Coprime.symm hb.2) ⟨a.1.natAbs, by rw [← h5, Nat.mul_comm]⟩)
  have e2 : a.2 = b.2 := Nat.dvd_antisymm d1 d2
  have b0 := hb.1
  rw [e2] at h4
  have e1 : a.1 = b.1 := Int.eq_of_mul_eq_mul_right (by omega) h4
  exact Prod.ext e1 e2
theorem valS_lt {a b : Fs} (ha : 0 < a.2) (hb : 0 < b.2) : valS a < valS b ↔ a.1 * (b.2 : Int) < b.1 * (a.2 : Int) := by
  have h1 : (0 : Rat) < (a.2 : Rat) := by exact_mod_cast ha
  have h2 : (0 : Rat) < (b.2 : Rat) := by exact_mod_cast hb
  unfold valS
  rw [Rat.div_lt_iff h1]
  have e : (b.1 : Rat) / (b.2 : Rat) * (a.2 : Rat) = ((b.1 : Rat) * (a.2 : Rat)) / (b.2 : Rat) := by
    have := rat_pos hb
    grind
  rw [e, Rat.lt_div_iff h2]
  constructor
  · intro h
    exact_mod_cast h
  · intro h
    exact_mod_cast h
def addS (a b : Fs) : Fs := redS (a.1 * b.2 + b.1 * a.2) (a.2 * b.2)
def subS (a b : Fs) : Fs := redS (a.1 * b.2 - b.1 * a.2) (a.2 * b.2)
def mulS (a b : Fs) : Fs := redS (a.1 * b.1) (a.2 * b.2)
def divS (a b : Fs) : Fs := if 0 < (a.2 : Int) * b.1 then redS (a.1 * b.2) (a.2 * b.1.natAbs) else redS (-(a.1 * b.2)) (a.2 * b.1.natAbs)
theorem valS_add {a b : Fs} (ha : LowS a) (hb : LowS b) : valS (addS a b) = valS a + valS b := by
  unfold addS
  rw [valS_red (Nat.mul_pos ha.1 hb.1)]
  have h1 := rat_pos ha.1
  have h2 := rat_pos hb.1
  unfold valS
  push_cast
  grind
theorem valS_sub {a b : Fs} (ha : LowS a) (hb : LowS b) : valS (subS a b) = valS a - valS b := by
  unfold subS
  rw [valS_red (Nat.mul_pos ha.1 hb.1)]
  have h1 := rat_pos ha.1
  have h2 := rat_pos hb.1
  unfold valS
  push_cast
  grind
theorem valS_mul {a b : Fs} (ha : LowS a) (hb : LowS b) : valS (mulS a b) = valS a * valS b := by
  unfold mulS
  rw [valS_red (Nat.mul_pos ha.1 hb.1)]
  have h1 := rat_pos ha.1
  have h2 := rat_pos hb.1
  unfold valS
  push_cast
  grind
theorem valS_div {a b : Fs} (ha : LowS a) (hb : LowS b) (h0 : b.1 ≠ 0) : valS (divS a b) = valS a / valS b := by
  have a1 := ha.1
  have n0 : 0 < b.1.natAbs := Int.natAbs_pos.mpr h0
  have h1 := rat_pos ha.1
  have h2 := rat_pos hb.1
  have h3 : ((b.1 : Int) : Rat) ≠ 0 := by exact_mod_cast h0
  unfold divS
  split
  · rename_i h
    have hb0 : 0 < b.1 := Int.pos_of_mul_pos_right h (by omega)
    rw [valS_red (Nat.mul_pos a1 n0)]
    have e : ((b.1.natAbs : Nat) : Rat) = ((b.1 : Int) : Rat) := by
      have : ((b.1.natAbs : Nat) : Int) = b.1 := by omega
      rw [← this]
      push_cast
      simp
    unfold valS
    push_cast
    rw [e]
    grind
  · rename_i h
    have hb0 : b.1 < 0 := by
      rcases Int.lt_trichotomy b.1 0 with q | q | q
      · exact q
      · exact absurd q h0
      · exact absurd (Int.mul_pos (by omega) q) h
    rw [valS_red (Nat.mul_pos a1 n0)]
    have e : ((b.1.natAbs : Nat) : Rat) = -((b.1 : Int) : Rat) := by
      have : ((b.1.natAbs : Nat) : Int) = -b.1 := by omega
      have h4 : (((b.1.natAbs : Nat) : Int) : Rat) = ((-b.1 : Int) : Rat) := by rw [this]
      push_cast at h4
      simpa using h4
    unfold valS
    push_cast
    rw [e]
    grind
theorem mulb {a b : Int} {c : Nat} {j k : Nat} (ha : a.natAbs < 2 ^ j) (hc : c < 2 ^ k) : (a * (c : Int)).natAbs < 2 ^ (j + k) := by
  rw [Int.natAbs_mul, Int.natAbs_natCast]
  exact mul_lt ha hc
theorem addS_bd {a b : Fs} {j k : Nat} (la : LowS a) (lb : LowS b) (ha : BdS j a) (hb : BdS k b) : BdS (j + k + 1) (addS a b) := by
  refine redS_bd (Nat.mul_pos la.1 lb.1) ?_ (Nat.lt_of_lt_of_le (mul_lt ha.2 hb.2) (Nat.pow_le_pow_right (by decide) (by omega)))
  have h1 := mulb (b := 0) ha.1 hb.2
  have h2 := mulb (b := 0) hb.1 ha.2
  rw [Nat.add_comm k j] at h2
  rw [Nat.pow_succ]
  generalize 2 ^ (j + k) = z at *
  omega
theorem subS_bd {a b : Fs} {j k : Nat} (la : LowS a) (lb : LowS b) (ha : BdS j a) (hb : BdS k b) : BdS (j + k + 1) (subS a b) := by
  refine redS_bd (Nat.mul_pos la.1 lb.1) ?_ (Nat.lt_of_lt_of_le (mul_lt ha.2 hb.2) (Nat.pow_le_pow_right (by decide) (by omega)))
  have h1 := mulb (b := 0) ha.1 hb.2
  have h2 := mulb (b := 0) hb.1 ha.2
  rw [Nat.add_comm k j] at h2
  rw [Nat.pow_succ]
  generalize 2 ^ (j + k) = z at *
  omega
theorem mulS_bd {a b : Fs} {j k : Nat} (la : LowS a) (lb : LowS b) (ha : BdS j a) (hb : BdS k b) : BdS (j + k) (mulS a b) := by
  refine redS_bd (Nat.mul_pos la.1 lb.1) ?_ (mul_lt ha.2 hb.2)
  rw [Int.natAbs_mul]
  exact mul_lt ha.1 hb.1
theorem divS_bd {a b : Fs} {j k : Nat} (la : LowS a) (h0 : b.1 ≠ 0) (ha : BdS j a) (hb : BdS k b) : BdS (j + k) (divS a b) := by
  have n0 : 0 < b.1.natAbs := Int.natAbs_pos.mpr h0
  unfold divS
  split
  · exact redS_bd (Nat.mul_pos la.1 n0) (mulb (b := 0) ha.1 hb.2) (mul_lt ha.2 hb.1)
  · refine redS_bd (Nat.mul_pos la.1 n0) ?_ (mul_lt ha.2 hb.1)
    rw [Int.natAbs_neg]
    exact mulb (b := 0) ha.1 hb.2
theorem divS_low {a b : Fs} (la : LowS a) (h0 : b.1 ≠ 0) : LowS (divS a b) := by
  have n0 : 0 < b.1.natAbs := Int.natAbs_pos.mpr h0
  unfold divS
  split <;> exact redS_low (Nat.mul_pos la.1 n0)
theorem subS_low {a b : Fs} (la : LowS a) (lb : LowS b) : LowS (subS a b) := redS_low (Nat.mul_pos la.1 lb.1)
theorem addS_low {a b : Fs} (la : LowS a) (lb : LowS b) : LowS (addS a b) := redS_low (Nat.mul_pos la.1 lb.1)
theorem mulS_low {a b : Fs} (la : LowS a) (lb : LowS b) : LowS (mulS a b) := redS_low (Nat.mul_pos la.1 lb.1)
theorem lowS01 : LowS (0, 1) := ⟨by decide, by decide⟩
theorem valS01 : valS (0, 1) = 0 := by
  unfold valS
  grind
theorem valS_zero {a : Fs} (h : LowS a) : a.1 = 0 ↔ a = (0, 1) := by
  constructor
  · intro e
    have := h.2
    rw [e] at this
    have : a.2 = 1 := by simpa using this
    exact Prod.ext e this
  · rintro rfl
    rfl
end G

set_option Elab.async false
set_option linter.all false
set_option maxRecDepth 100000
set_option maxHeartbeats 1000000
namespace G
open PySem L2 Fx
theorem lt_8000' {a : Nat} (h : a < 2 ^ 7900) : a < 2 ^ 8000 := Nat.lt_trans h (Nat.pow_lt_pow_right (by decide) (by decide))
theorem habs (a : Int) : (if a < 0 then -a else a) = ((a.natAbs : Nat) : Int) := by split <;> omega
theorem logS {a b : Int} {j k : Nat} (ha : a.natAbs < 2 ^ j) (hb : b.natAbs < 2 ^ k) (hj : 0 < j) (hk : 0 < k) (h : j + k ≤ 100000) : a.natAbs.log2 + b.natAbs.log2 < 1000000 := by
  have h1 := log2_lt' hj ha
  have h2 := log2_lt' hk hb
  omega
section
variable {L : Store}
theorem fraction_okS {a : Int} {b : Nat} (ha : a.natAbs < 2 ^ 7900) (hb : 0 < b) (hb2 : b < 2 ^ 7900) : g_fraction [.int a, .int b] L = some (.ok (frS (redS a b)) L) := by
  refine Ok.eq ?_
  unfold g_fraction
  rw [ok_def]
  unfold b_fraction
  have hg : 0 < Nat.gcd a.natAbs b := Nat.gcd_pos_of_pos_right _ hb
  have hl : (Nat.gcd a.natAbs b).log2 < 9000 := log2_lt' (by decide) (Nat.lt_of_le_of_lt (Nat.gcd_le_right _ hb) (Nat.lt_trans hb2 (Nat.pow_lt_pow_right (by decide) (by decide))))
  have hc := divisor_ok (L := L) (a := a.natAbs) (show b < fuelN from lt_8000' hb2)
  have hz : 2 ≤ sizeLine := by decide
  have ha := habs a
  generalize (if a < 0 then -a else a) = a' at ha
  subst ha
  unfold frS redS
  generalize Nat.gcd a.natAbs b = g at *
  have h1 : (if a < 0 then -a else a) = ((a.natAbs : Nat) : Int) := habs a
  simp [h1, hc, hg, hl, hz]
theorem frac_okS {a : Int} {b : Nat} (ha : a.natAbs < 2 ^ 7900) (hb : 0 < b) (hb2 : b < 2 ^ 7900) : g__law_frac [.int a, .int b] L = some (.ok (frS (redS a b)) L) := by
  refine Ok.eq ?_
  unfold g__law_frac
  rw [ok_def]
  unfold b__law_frac
  have hg : 0 < Nat.gcd a.natAbs b := Nat.gcd_pos_of_pos_right _ hb
  have hl : (Nat.gcd a.natAbs b).log2 < 9000 := log2_lt' (by decide) (Nat.lt_of_le_of_lt (Nat.gcd_le_right _ hb) (Nat.lt_trans hb2 (Nat.pow_lt_pow_right (by decide) (by decide))))
  have hc := common_ok (L := L) (a := a.natAbs) (b := b) (lt_8000' ha)
  have hz : 2 ≤ sizeLine := by decide
  unfold frS redS
  generalize Nat.gcd a.natAbs b = g at *
  have h1 : (if a < 0 then -a else a) = ((a.natAbs : Nat) : Int) := habs a
  simp [h1, hc, hg, hl, hz]
theorem ixS {kt : Bool} {a : Fs} : hIx kt L (.v (frS a)) (.int 0) = some (.int a.1) ∧ hIx kt L (.v (frS a)) (.int 1) = some (.int a.2) := ⟨rfl, rfl⟩
variable {a b : Fs} {j k : Nat}
theorem addS_n (la : LowS a) (lb : LowS b) (ka : BdS j a) (kb : BdS k b) (h : j + k + 1 ≤ 7900) : (a.1 * (b.2 : Int) + b.1 * (a.2 : Int)).natAbs < 2 ^ 7900 ∧ a.2 * b.2 < 2 ^ 7900 := by
  refine ⟨Nat.lt_of_lt_of_le ?_ (Nat.pow_le_pow_right (by decide) h), Nat.lt_of_lt_of_le (mul_lt ka.2 kb.2) (Nat.pow_le_pow_right (by decide) (by omega))⟩
  have h1 := mulb (b := 0) ka.1 kb.2
  have h2 := mulb (b := 0) kb.1 ka.2
  rw [Nat.add_comm k j] at h2
  rw [Nat.pow_succ]
  generalize 2 ^ (j + k) = z at *
  omega
theorem subS_n (la : LowS a) (lb : LowS b) (ka : BdS j a) (kb : BdS k b) (h : j + k + 1 ≤ 7900) : (a.1 * (b.2 : Int) - b.1 * (a.2 : Int)).natAbs < 2 ^ 7900 ∧ a.2 * b.2 < 2 ^ 7900 := by
  refine ⟨Nat.lt_of_lt_of_le ?_ (Nat.pow_le_pow_right (by decide) h), Nat.lt_of_lt_of_le (mul_lt ka.2 kb.2) (Nat.pow_le_pow_right (by decide) (by omega))⟩
  have h1 := mulb (b := 0) ka.1 kb.2
  have h2 := mulb (b := 0) kb.1 ka.2
  rw [Nat.add_comm k j] at h2
  rw [Nat.pow_succ]
  generalize 2 ^ (j + k) = z at *
  omega
theorem logN {x : Int} {n : Nat} (hx : x.natAbs < 2 ^ j) (hn : n < 2 ^ k) (hj : 0 < j) (hk : 0 < k) (h : j + k ≤ 100000) : x.natAbs.log2 + n.log2 < 1000000 := by
  have h1 := log2_lt' hj hx
  have h2 := log2_lt' hk hn
  omega
theorem logNN {m n : Nat} (hx : m < 2 ^ j) (hn : n < 2 ^ k) (hj : 0 < j) (hk : 0 < k) (h : j + k ≤ 100000) : m.log2 + n.log2 < 1000000 := by
  have h1 := log2_lt' hj hx
  have h2 := log2_lt' hk hn
  omega
theorem minus_okS (la : LowS a) (lb : LowS b) (ka : BdS j a) (kb : BdS k b) (hj : 0 < j) (hk : 0 < k) (h : j + k + 1 ≤ 7900) : g_minus [frS a, frS b] L = some (.ok (frS (subS a b)) L) := by
  refine Ok.eq ?_
  unfold g_minus
  rw [ok_def]
  unfold b_minus
  obtain ⟨n1, n2⟩ := subS_n la lb ka kb h
  have hf := fraction_okS (L := L) n1 (Nat.mul_pos la.1 lb.1) n2
  simp only [Int.natCast_mul] at hf
  have m1 := logN ka.1 kb.2 hj hk (by omega)
  have m2 := logN kb.1 ka.2 hk hj (by omega)
  have m3 := logNN ka.2 kb.2 hj hk (by omega)
  have e : ∀ a : Fs, frS a = .tup [.int a.1, .int a.2] := fun _ => rfl
  unfold subS
  rw [e a, e b]
  simp [m1, m2, m3, hf]
theorem sum_okS (la : LowS a) (lb : LowS b) (ka : BdS j a) (kb : BdS k b) (hj : 0 < j) (hk : 0 < k) (h : j + k + 1 ≤ 7900) : g__law_sum [frS a, frS b] L = some (.ok (frS (addS a b)) L) := by
  refine Ok.eq ?_
  unfold g__law_sum
  rw [ok_def]
  unfold b__law_sum
  obtain ⟨n1, n2⟩ := addS_n la lb ka kb h
  have hf := frac_okS (L := L) n1 (Nat.mul_pos la.1 lb.1) n2
  simp only [Int.natCast_mul] at hf
  have m1 := logN ka.1 kb.2 hj hk (by omega)
  have m2 := logN kb.1 ka.2 hk hj (by omega)
  have m3 := logNN ka.2 kb.2 hj hk (by omega)
  have e : ∀ a : Fs, frS a = .tup [.int a.1, .int a.2] := fun _ => rfl
  unfold addS
  rw [e a, e b]
  simp [m1, m2, m3, hf]
theorem part_okS (la : LowS a) (lb : LowS b) (ka : BdS j a) (kb : BdS k b) (hj : 0 < j) (hk : 0 < k) (h : j + k + 1 ≤ 7900) : g__law_part [frS a, frS b] L = some (.ok (frS (mulS a b)) L) := by
  refine Ok.eq ?_
  unfold g__law_part
  rw [ok_def]
  unfold b__law_part
  have n1 : (a.1 * b.1).natAbs < 2 ^ 7900 := by
    rw [Int.natAbs_mul]
    exact Nat.lt_of_lt_of_le (mul_lt ka.1 kb.1) (Nat.pow_le_pow_right (by decide) (by omega))
  have n2 : a.2 * b.2 < 2 ^ 7900 := Nat.lt_of_lt_of_le (mul_lt ka.2 kb.2) (Nat.pow_le_pow_right (by decide) (by omega))
  have hf := frac_okS (L := L) n1 (Nat.mul_pos la.1 lb.1) n2
  simp only [Int.natCast_mul] at hf
  have m1 := logS ka.1 kb.1 hj hk (by omega)
  have m3 := logNN ka.2 kb.2 hj hk (by omega)
  have e : ∀ a : Fs, frS a = .tup [.int a.1, .int a.2] := fun _ => rfl
  unfold mulS
  rw [e a, e b]
  simp [m1, m3, hf]
theorem by_okS (la : LowS a) (lb : LowS b) (h0 : b.1 ≠ 0) (ka : BdS j a) (kb : BdS k b) (hj : 0 < j) (hk : 0 < k) (h : j + k + 1 ≤ 7900) : g_by [frS a, frS b] L = some (.ok (frS (divS a b)) L) := by
  refine Ok.eq ?_
  unfold g_by
  rw [ok_def]
  unfold b_by
  have n0 : 0 < b.1.natAbs := Int.natAbs_pos.mpr h0
  have m1 := logN ka.1 kb.2 hj hk (by omega)
  have m2 : a.2.log2 + b.1.natAbs.log2 < 1000000 := by
    have := logN kb.1 ka.2 hk hj (by omega)
    omega
  have n1 : (a.1 * (b.2 : Int)).natAbs < 2 ^ 7900 := Nat.lt_of_lt_of_le (mulb (b := 0) ka.1 kb.2) (Nat.pow_le_pow_right (by decide) (by omega))
  have n2 : a.2 * b.1.natAbs < 2 ^ 7900 := Nat.lt_of_lt_of_le (mul_lt ka.2 kb.1) (Nat.pow_le_pow_right (by decide) (by omega))
  have e : ∀ a : Fs, frS a = .tup [.int a.1, .int a.2] := fun _ => rfl
  unfold divS
  rw [e a, e b]
  by_cases hb0 : 0 < (a.2 : Int) * b.1
  · have hf := fraction_okS (L := L) n1 (Nat.mul_pos la.1 n0) n2
    have e2 : ((a.2 * b.1.natAbs : Nat) : Int) = (a.2 : Int) * b.1 := by
      have hb1 : 0 < b.1 := Int.pos_of_mul_pos_right hb0 (by have := la.1; omega)
      push_cast
      rw [Int.natAbs_of_nonneg (by omega)]
    rw [e2] at hf
    rw [if_pos hb0]
    simp [m1, m2, hb0, hf]
  · have hb1 : b.1 < 0 := by
      rcases Int.lt_trichotomy b.1 0 with q | q | q
      · exact q
      · exact absurd q h0
      · exact absurd (Int.mul_pos (by have := la.1; omega) q) hb0
    have hf := fraction_okS (L := L) (a := -(a.1 * (b.2 : Int))) (by rw [Int.natAbs_neg]; exact n1) (Nat.mul_pos la.1 n0) n2
    have e2 : ((a.2 * b.1.natAbs : Nat) : Int) = -((a.2 : Int) * b.1) := by
      have : ((b.1.natAbs : Nat) : Int) = -b.1 := by omega
      rw [Int.natCast_mul, this, Int.mul_neg]
    rw [e2] at hf
    rw [if_neg hb0]
    generalize hy : (a.2 : Int) * b.1 = y at *
    generalize hx : a.1 * (b.2 : Int) = x at *
    simp [m1, m2, hx, hy, hb0, hf]
theorem less_all (ka : BdS j a) (kb : BdS k b) (hj : 0 < j) (hk : 0 < k) (h : j + k ≤ 100000) (la : 0 < a.2) (lb : 0 < b.2) :
    Ok (sRet (eOp hLt (eOp hMulI (eOpH (hIx true) (hE (eVar 0)) (eC (.int 0))) (eOpH (hIx true) (hE (eVar 1)) (eC (.int 1)))) (eOp hMulI (eOpH (hIx true) (hE (eVar 1)) (eC (.int 0))) (eOpH (hIx true) (hE (eVar 0)) (eC (.int 1))))) [.val (frS a), .val (frS b)] L) fun w L' => w = .rt (.bl (decide (valS a < valS b))) ∧ L' = L := by
  have m1 := logN ka.1 kb.2 hj hk (by omega)
  have m2 := logN kb.1 ka.2 hk hj (by omega)
  have e : ∀ a : Fs, frS a = .tup [.int a.1, .int a.2] := fun _ => rfl
  have e2 : decide (valS a < valS b) = decide (a.1 * (b.2 : Int) < b.1 * (a.2 : Int)) := decide_eq_decide.mpr (valS_lt la lb)
  rw [e2, e a, e b]
  simp [m1, m2]
theorem is_less_okS (ka : BdS j a) (kb : BdS k b) (la : LowS a) (lb : LowS b) (hj : 0 < j) (hk : 0 < k) (h : j + k ≤ 100000) : g_is_less [frS a, frS b] L = some (.ok (.bl (decide (valS a < valS b))) L) := by
  refine Ok.eq ?_
  unfold g_is_less
  rw [ok_def]
  exact (less_all ka kb hj hk h la.1 lb.1).imp fun w L' ⟨e, e2⟩ => by subst e; exact ⟨rfl, e2⟩
theorem below_okS (ka : BdS j a) (kb : BdS k b) (la : 0 < a.2) (lb : 0 < b.2) (hj : 0 < j) (hk : 0 < k) (h : j + k ≤ 100000) : g__law_below [frS a, frS b] L = some (.ok (.bl (decide (valS a < valS b))) L) := by
  refine Ok.eq ?_
  unfold g__law_below
  rw [ok_def]
  exact (less_all ka kb hj hk h la lb).imp fun w L' ⟨e, e2⟩ => by subst e; exact ⟨rfl, e2⟩
end
end G

set_option Elab.async false
set_option linter.all false
set_option maxRecDepth 100000
set_option maxHeartbeats 1000000
namespace G
open PySem L2 Fx
theorem redS_nat (p q : Nat) : redS (p : Int) q = toS (red p q) := by
  unfold redS toS red
  rw [Int.natAbs_natCast]
  dsimp only
  rw [← Int.natCast_ediv]
theorem addS_nat (a b : Fr) : addS (toS a) (toS b) = toS (addF a b) := by
  unfold addF
  rw [← redS_nat]
  unfold addS toS
  dsimp only
  congr 1
theorem mulS_nat (a b : Fr) : mulS (toS a) (toS b) = toS (mulF a b) := by
  unfold mulF
  rw [← redS_nat]
  unfold mulS toS
  dsimp only
  congr 1
section
variable {L : Store} {a b : Fr} {j k : Nat}
theorem sum_ok2 (ha : Low a) (hb : Low b) (ka : Bd j a) (kb : Bd k b) (hj : 0 < j) (hk : 0 < k) (h : j + k + 1 ≤ 7900) : g__law_sum [frP a, frP b] L = some (.ok (frP (addF a b)) L) := by
  have := sum_okS (L := L) (lowS_to ha) (lowS_to hb) (bdS_to ka) (bdS_to kb) hj hk h
  rw [addS_nat] at this
  exact this
theorem part_ok2 (ha : Low a) (hb : Low b) (ka : Bd j a) (kb : Bd k b) (hj : 0 < j) (hk : 0 < k) (h : j + k + 1 ≤ 7900) : g__law_part [frP a, frP b] L = some (.ok (frP (mulF a b)) L) := by
  have := part_okS (L := L) (lowS_to ha) (lowS_to hb) (bdS_to ka) (bdS_to kb) hj hk h
  rw [mulS_nat] at this
  exact this
theorem below_ok2 (ka : Bd j a) (kb : Bd k b) (la : 0 < a.2) (lb : 0 < b.2) (hj : 0 < j) (hk : 0 < k) (h : j + k ≤ 100000) : g__law_below [frP a, frP b] L = some (.ok (.bl (decide (a.1 * b.2 < b.1 * a.2))) L) := by
  have := below_okS (L := L) (bdS_to ka) (bdS_to kb) la lb hj hk h
  have e : decide (valS (toS a) < valS (toS b)) = decide (a.1 * b.2 < b.1 * a.2) := by
    refine decide_eq_decide.mpr ?_
    rw [valS_lt (a := toS a) (b := toS b) la lb]
    show (a.1 : Int) * (b.2 : Int) < (b.1 : Int) * (a.2 : Int) ↔ _
    rw [← Int.natCast_mul, ← Int.natCast_mul]
    omega
  rw [e] at this
  exact this
theorem sum_loop2 {m : SV} {b : Nat} (hb0 : 0 < b) : ∀ (ms : Mix) (acc : Fr) (x y : SV) (k : Nat), AOk b ms → Low acc → Bd k acc → 0 < k → k + (b + 1) * ms.length ≤ 7800 →
    ∃ x' y', fLoop (gTp (gCns (gNm 2) (gCns (gNm 3) gNls))) (sSet 1 (eCall 2 g__law_sum (aCons (eVar 1) (aCons (eVar 3) aNil)) [])) (ms.map rowP) [m, .val (frP acc), x, y] L = some (.ok (.nx [m, .val (frP (sumF acc ms)), x', y']) L)
  | [], acc, x, y, k, _, _, _, _, _ => ⟨x, y, rfl⟩
  | r :: ms, acc, x, y, k, h, h1, h2, hk0, hk => by
    obtain ⟨r1, r2⟩ := h r (by simp)
    rw [List.length_cons, Nat.mul_succ] at hk
    have hs := sum_ok2 (L := L) h1 r1 h2 r2 hk0 hb0 (by omega)
    obtain ⟨x', y', e⟩ := sum_loop2 hb0 (m := m) ms (addF acc r.2) (.val (.str r.1)) (.val (frP r.2)) (k + b + 1) (fun x hx => h x (by simp [hx])) (addF_low h1 r1) (addF_bd h2 r2) (by omega) (by omega)
    refine ⟨x', y', ?_⟩
    rw [List.map_cons]
    unfold fLoop
    have ht : gTp (gCns (gNm 2) (gCns (gNm 3) gNls)) (rowP r) [m, .val (frP acc), x, y] = some [m, .val (frP acc), .val (.str r.1), .val (frP r.2)] := rfl
    have hb : sSet 1 (eCall 2 g__law_sum (aCons (eVar 1) (aCons (eVar 3) aNil)) []) [m, .val (frP acc), .val (.str r.1), .val (frP r.2)] L = some (.ok (.nx [m, .val (frP (addF acc r.2)), .val (.str r.1), .val (frP r.2)]) L) := by
      refine Ok.eq ?_
      simp [hs]
    rw [ht]
    dsimp only
    rw [hb]
    exact e
theorem total_ok {b : Nat} {ms : Mix} (h : AOk b ms) (hb0 : 0 < b) (hl : 1 + (b + 1) * ms.length ≤ 7800) : g__law_total [mixP ms] L = some (.ok (frP (sumF (0, 1) ms)) L) := by
  refine Ok.eq ?_
  unfold g__law_total
  rw [ok_def]
  unfold b__law_total
  obtain ⟨x', y', e⟩ := sum_loop2 (L := L) hb0 (m := .val (mixP ms)) ms (0, 1) .no .no 1 h low01 bd01 (by decide) hl
  have z : PV.tup [.int 0, .int 1] = frP (0, 1) := rfl
  have z2 : 2 ≤ sizeLine := by decide
  simp [z2]
  rw [Ok_seq]
  rw [z, mixP_rows] at *
  simp [e]
end
end G

set_option Elab.async false
set_option linter.all false
set_option maxRecDepth 100000
set_option maxHeartbeats 1000000
namespace G
open PySem L2 Fx
theorem fr_same (a : Fr) : hNe (frP a) (frP a) = some (.bl false) := (pl_eq (pl_fr a) (by decide)).2
theorem below_ok {L : Store} {a b : Fr} (ka : Bd 3000 a) (kb : Bd 3000 b) : g__law_below [frP a, frP b] L = some (.ok (.bl (decide (a.1 * b.2 < b.1 * a.2))) L) := by
  refine Ok.eq ?_
  unfold g__law_below
  rw [ok_def]
  unfold b__law_below
  have m1 := mulOk ka.1 kb.2
  have m2 := mulOk kb.1 ka.2
  have e : ∀ a : Fr, frP a = .tup [.int a.1, .int a.2] := fun _ => rfl
  have h : decide ((a.1 : Int) * (b.2 : Int) < (b.1 : Int) * (a.2 : Int)) = decide (a.1 * b.2 < b.1 * a.2) := by
    rw [decide_eq_decide, ← Int.natCast_mul, ← Int.natCast_mul]
    omega
  rw [e a, e b]
  simp [m1, m2]
  rw [Bool.eq_iff_iff] at h
  simpa using h
theorem mix_nil {ms : Mix} (k : KOk ms) (hl : ms.length ≤ 1000) : hEq (mixP ms) (.tup []) = some (.bl (decide (ms = []))) := by
  have h1 := pl_dOk (pl_mix k hl) 64 (by decide)
  have h2 : dOk 64 (.tup []) = true := rfl
  unfold hEq
  rw [if_pos ⟨h1, h2⟩]
  cases ms with
  | nil => rfl
  | cons r ms => rfl
theorem mix_eq {ms : Mix} (k : KOk ms) (hl : ms.length ≤ 1000) : hNe (mixP ms) (mixP ms) = some (.bl false) := (pl_eq (pl_mix k hl) (by decide)).2
theorem mix_nnil {ms : Mix} (k : KOk ms) (hl : ms.length ≤ 1000) : hNe (mixP ms) (.tup []) = some (.bl (!decide (ms = []))) := by
  have h1 := pl_dOk (pl_mix k hl) 64 (by decide)
  have h2 : dOk 64 (.tup []) = true := rfl
  unfold hNe
  rw [if_pos ⟨h1, h2⟩]
  cases ms with
  | nil => rfl
  | cons r ms => rfl
theorem fr_ix0 {kt : Bool} {L : Store} {a : Fr} : hIx kt L (.v (frP a)) (.int 0) = some (.int a.1) := by
  show atI [PV.int a.1, .int a.2] 0 = _
  exact atI_0
theorem fr_ix1 {kt : Bool} {L : Store} {a : Fr} : hIx kt L (.v (frP a)) (.int 1) = some (.int a.2) := by
  show atI [PV.int a.1, .int a.2] 1 = _
  exact atI_1
end G

set_option Elab.async false
set_option linter.all false
set_option maxRecDepth 100000
set_option maxHeartbeats 1000000
namespace G
open PySem L2 Fx
def GKOk (gs : Gr) : Prop := ∀ r ∈ gs, PyData.strOk r.1 = true
def amt (ms : Mix) (k : Str) : Fr := (findA ms k).getD (0, 1)
def gQ (ms : Mix) (w : Fr) (r : Str × (Nat × Nat)) : Bool := inB (100 * (amt ms r.1).1, (amt ms r.1).2) (mulF w (r.2.1, 1)) (mulF w (r.2.2, 1))
def letsL (gs : Gr) (ms : Mix) : Bool := !decide (ms = []) && (ms.all (fun r => decide (r.1 ∈ gs.map (·.1))) && gs.all (gQ ms (sumF (0, 1) ms)))
theorem strs_dOks {ks : List Str} (h : ∀ k ∈ ks, PyData.strOk k = true) (hl : ks.length ≤ 1000) : dOk 64 (.lst (ks.map PV.str)) = true ∧ dOks 63 (ks.map PV.str) = true := by
  have : Pl 1 (.lst (ks.map PV.str)) := ⟨by rw [List.length_map]; exact hl, fun x hx => by
    obtain ⟨k, hk, rfl⟩ := List.mem_map.mp hx
    exact h k hk⟩
  exact ⟨pl_dOk this 64 (by decide), pl_dOks this.2 63 (by decide)⟩
theorem notin_strs {L : Store} {k : Str} {ks : List Str} (hk : PyData.strOk k = true) (h : ∀ k ∈ ks, PyData.strOk k = true) (hl : ks.length ≤ 1000) : hNotIn true L (.str k) (.v (.lst (ks.map PV.str))) = some (.bl (!decide (k ∈ ks))) := by
  have h1 : dOk 64 (.str k) = true := pl_dOk (d := 0) (v := .str k) hk 64 (by decide)
  have h2 := (strs_dOks h hl).2
  have e : (ks.map PV.str).any (fun z => pveq z (.str k)) = decide (k ∈ ks) := by
    rw [Bool.eq_iff_iff, List.any_eq_true, decide_eq_true_eq]
    constructor
    · rintro ⟨x, hx, q⟩
      obtain ⟨y, hy, rfl⟩ := List.mem_map.mp hx
      have : y = k := by simpa [pveq] using q
      exact this ▸ hy
    · intro hk
      exact ⟨.str k, List.mem_map.mpr ⟨k, hk, rfl⟩, by simp [pveq]⟩
  show (if dOk 64 (.str k) = true ∧ dOks 63 (ks.map PV.str) = true then some ((ks.map PV.str).any fun z => pveq z (.str k)) else none).map (fun b => PV.bl (!b)) = _
  rw [if_pos ⟨h1, h2⟩, e]
  rfl
theorem ne_nil_strs {ks : List Str} (h : ∀ k ∈ ks, PyData.strOk k = true) (hl : ks.length ≤ 1000) : hNe (.lst (ks.map PV.str)) (.lst []) = some (.bl (!decide (ks = []))) := by
  unfold hNe
  rw [if_pos ⟨(strs_dOks h hl).1, rfl⟩]
  cases ks <;> rfl
theorem lawlets_ok {L : Store} {b : Nat} {gs : Gr} {ms : Mix} (hgk : GKOk gs) (hg : ∀ r ∈ gs, r.2.1 ≤ 100 ∧ r.2.2 ≤ 100) (hgl : gs.length ≤ 100) (h : AOk b ms) (k : KOk ms) (o : ordM ms) (hb0 : 0 < b) (hb3 : b ≤ 7000) (hl1 : 1 + (b + 1) * ms.length ≤ 7000) (hl : ms.length ≤ 100) : g__law_lets [gradeN gs, mixP ms] L = some (.ok (.bl (letsL gs ms)) L) := by
  refine Ok.eq ?_
  unfold g__law_lets
  rw [ok_def]
  unfold b__law_lets
  obtain ⟨w1, w2, w3⟩ := whole_ok h
  have ht := total_ok (L := L) h hb0 (by omega)
  have hdict : nDict true L (.v (mixP ms)) = some (.dk (kvP frP ms)) := by
    rw [mixP_rows]
    show (if true = true then (pairsOf (ms.map rowP)).map (fun kvs => Cell.dk (mergeP kvs)) else none) = _
    rw [if_pos rfl, pairsOf_rows, Option.map_some, mergeP_kvP (ordM_nodup o)]
  have hz : gs.length ≤ sizeLine := Nat.le_trans (by omega : _ ≤ 1000) (by decide)
  have hz2 : ms.length ≤ sizeLine := Nat.le_trans (by omega : _ ≤ 1000) (by decide)
  have hk1 := comp_srcY (t := gNm 4) (g := eOpH (hIx true) (hE (eVar 4)) (eC (.int 0))) (s := [.val (gradeN gs), .val (mixP ms), .val (frP (sumF (0, 1) ms)), .val (dkP frP ms), .no, .no, .no, .no, .no, .no]) (L := L) (f := gRowP) (fun r => .str r.1) (xs := gs) (fun r hr => ⟨_, rfl, by
    refine Ok.eq ?_
    simp [gRowP]⟩) hz
  have ks : ∀ k ∈ gs.map (·.1), PyData.strOk k = true := fun k hk => by
    obtain ⟨r, hr, rfl⟩ := List.mem_map.mp hk
    exact hgk r hr
  have ek : (gs.map fun r => PV.str r.1) = (gs.map (·.1)).map PV.str := by rw [List.map_map]; rfl
  rw [ek] at hk1
  have hk2 := comp_src (t := gNm 6) (p := bB (eOpH' (hNotIn true) (eVar 6) (hE (eVar 5)))) (g := eVar 6) (s := [.val (gradeN gs), .val (mixP ms), .val (frP (sumF (0, 1) ms)), .val (dkP frP ms), .no, .val (.lst ((gs.map (·.1)).map PV.str)), .no, .no, .no, .no]) (L := L) (f := fun r : Str × Fr => PV.str r.1) (fun r => !decide (r.1 ∈ gs.map (·.1))) (fun r => .str r.1) (xs := ms) (fun r hr => ⟨_, rfl, by
    refine Ok.eq ?_
    have := notin_strs (L := L) (k r hr) ks (by rw [List.length_map]; omega)
    generalize (gs.map (·.1)).map PV.str = xs at this ⊢
    simp [this], fun _ => by
    refine Ok.eq ?_
    simp⟩) hz2
  have hkeys := dkP_keys (f := frP) ms
  have hn := mix_nil k (by omega)
  have hne := ne_nil_strs (ks := (ms.filter fun r => !decide (r.1 ∈ gs.map (·.1))).map (·.1)) (fun k' hk => by
    obtain ⟨r, hr, rfl⟩ := List.mem_map.mp hk
    exact k r (List.mem_filter.mp hr).1) (by rw [List.length_map]; exact Nat.le_trans (List.length_filter_le _ _) (by omega))
  have e2 : ((ms.filter fun r => !decide (r.1 ∈ gs.map (·.1))).map fun r => PV.str r.1) = ((ms.filter fun r => !decide (r.1 ∈ gs.map (·.1))).map (·.1)).map PV.str := by rw [List.map_map]; rfl
  rw [e2] at hk2
  have e3 : (!decide ((ms.filter fun r => !decide (r.1 ∈ gs.map (·.1))).map (·.1) = [])) = !(ms.all fun r => decide (r.1 ∈ gs.map (·.1))) := by
    congr 1
    rw [Bool.eq_iff_iff, decide_eq_true_eq, List.map_eq_nil_iff, List.filter_eq_nil_iff, List.all_eq_true]
    simp
  rw [e3] at hne
  generalize hms2 : ((ms.filter fun r => !decide (r.1 ∈ gs.map (·.1))).map (·.1)).map PV.str = bad at hk2 hne
  have hle : letsL gs ms = (!decide (ms = []) && ((ms.all fun r => decide (r.1 ∈ gs.map (·.1))) && gs.all (gQ ms (sumF (0, 1) ms)))) := rfl
  generalize (ms.all fun r => decide (r.1 ∈ gs.map (·.1))) = c at hne hle
  generalize hkn : (gs.map (·.1)).map PV.str = kn at hk1 hk2
  generalize hw : sumF (0, 1) ms = w at *
  simp [ht, hdict]
  rw [kv_dkP]
  have it : itemsOf (gradeN gs) = some (gs.map gRowP) := rfl
  have g1 := fun x : Str => dkP_get (kt := true) (f := frP) (ms := ms) (k := x) (L := L)
  have v0 : ∀ x : Str, ((look (kvP frP ms) (.inr x)).getD (frP (0, 1))) = frP (amt ms x) := fun x => by
    rw [look_kvP]
    unfold amt
    cases findA ms x <;> rfl
  have sb : ∀ x, Low (amt ms x) ∧ Bd 7000 (amt ms x) := fun x => by
    unfold amt
    cases q : findA ms x with
    | none => exact ⟨low01, bd01.mono (by decide)⟩
    | some a =>
      obtain ⟨q1, q2⟩ := findA_A h x a q
      exact ⟨q1, q2.mono (by omega)⟩
  obtain ⟨s', ⟨y6, y7, y8, y9, rfl⟩, hf⟩ := fLoop_chkM (t := gTp (gCns (gNm 6) (gCns (gNm 7) (gCns (gNm 8) gNls)))) (b := (sSeq (sSet 9 (eGet true (hE (eVar 3)) (eVar 6) (eTup (aCons (eC (.int 0)) (aCons (eC (.int 1)) aNil)))))
    (sSeq (sIf (bB (eCall 2 g__law_below (aCons (eTup (aCons (eOp hMulI (eC (.int 100)) (eOpH (hIx true) (hE (eVar 9)) (eC (.int 0)))) (aCons (eOpH (hIx true) (hE (eVar 9)) (eC (.int 1))) aNil))) (aCons (eCall 2 g__law_part (aCons (eVar 2) (aCons (eTup (aCons (eVar 7) (aCons (eC (.int 1)) aNil))) aNil)) []) aNil)) [])) (sRet (eC (.bl false))) sNx)
    (sIf (bB (eCall 2 g__law_below (aCons (eCall 2 g__law_part (aCons (eVar 2) (aCons (eTup (aCons (eVar 8) (aCons (eC (.int 1)) aNil))) aNil)) []) (aCons (eTup (aCons (eOp hMulI (eC (.int 100)) (eOpH (hIx true) (hE (eVar 9)) (eC (.int 0)))) (aCons (eOpH (hIx true) (hE (eVar 9)) (eC (.int 1))) aNil))) aNil)) [])) (sRet (eC (.bl false))) sNx)))) (L := L) (v := .bl false) gRowP (gQ ms w)
      (fun s => ∃ y6 y7 y8 y9, s = [.val (gradeN gs), .val (mixP ms), .val (frP w), .val (dkP frP ms), .no, .val (.lst kn), y6, y7, y8, y9]) gs [.val (gradeN gs), .val (mixP ms), .val (frP w), .val (dkP frP ms), .no, .val (.lst kn), .no, .no, .no, .no] ⟨_, _, _, _, rfl⟩ (by
      rintro r hr s ⟨y6, y7, y8, y9, rfl⟩
      refine ⟨_, [.val (gradeN gs), .val (mixP ms), .val (frP w), .val (dkP frP ms), .no, .val (.lst kn), .val (.str r.1), .val (.int r.2.1), .val (.int r.2.2), .val (frP (amt ms r.1))], rfl, ⟨_, _, _, _, rfl⟩, Ok.eq ?_⟩
      obtain ⟨hr1, hr2⟩ := hg r hr
      have bq : ∀ x : Nat, x ≤ 100 → Low (x, 1) ∧ Bd 7 (x, 1) := fun x hx => ⟨⟨Nat.one_pos, Nat.gcd_one_right x⟩, Nat.lt_of_le_of_lt hx (by decide), (by decide : 1 < 2 ^ 7)⟩
      have p1 := part_ok2 (L := L) w1 (bq _ hr1).1 w3 (bq _ hr1).2 (by omega) (by decide) (by omega)
      have p2 := part_ok2 (L := L) w1 (bq _ hr2).1 w3 (bq _ hr2).2 (by omega) (by decide) (by omega)
      have pb1 := (mulF_bd w3 (bq _ hr1).2).mono (by omega : _ ≤ 8000)
      have pb2 := (mulF_bd w3 (bq _ hr2).2).mono (by omega : _ ≤ 8000)
      have pl1 : 0 < (mulF w (r.2.1, 1)).2 := (red_low (Nat.mul_pos w1.1 Nat.one_pos)).1
      have pl2 : 0 < (mulF w (r.2.2, 1)).2 := (red_low (Nat.mul_pos w1.1 Nat.one_pos)).1
      have sb := sb r.1
      have v0 := v0 r.1
      have eq : gQ ms w r = inB (100 * (amt ms r.1).1, (amt ms r.1).2) (mulF w (r.2.1, 1)) (mulF w (r.2.2, 1)) := rfl
      rw [eq]
      obtain ⟨g1, g2, g3⟩ := g1 r.1
      generalize amt ms r.1 = a at *
      have ab : Bd 8000 (100 * a.1, a.2) := ⟨Nat.lt_of_lt_of_le (mul_lt (j := 7) (by decide : 100 < 2 ^ 7) sb.2.1) (Nat.pow_le_pow_right (by decide) (by decide)), Nat.lt_of_lt_of_le sb.2.2 (Nat.pow_le_pow_right (by decide) (by decide))⟩
      generalize mulF w (r.2.1, 1) = x1 at *
      generalize mulF w (r.2.2, 1) = x2 at *
      have l1 := below_ok2 (L := L) ab pb1 sb.1.1 pl1 (by decide) (by decide) (by decide)
      have l2 := below_ok2 (L := L) pb2 ab pl2 sb.1.1 (by decide) (by decide) (by decide)
      have e1 : frP (100 * a.1, a.2) = .tup [.int (100 * (a.1 : Int)), .int a.2] := by simp [frP]
      have e2 : ∀ x : Nat, frP (x, 1) = .tup [.int x, .int 1] := fun _ => rfl
      rw [e1] at l1 l2
      rw [e2] at p1 p2
      have i1 : isDv (some (Vw.dk (kvP frP ms))) = true := rfl
      have e01 : PV.tup [.int 0, .int 1] = frP (0, 1) := rfl
      have z2 : 2 ≤ sizeLine := by decide
      have i2 : ∀ L, hIx true L (.v (frP a)) (.int 0) = some (.int a.1) := fun L => fr_ix0
      have i3 : ∀ L, hIx true L (.v (frP a)) (.int 1) = some (.int a.2) := fun L => fr_ix1
      have m1 := logNN (m := 100) (n := a.1) (by decide : 100 < 2 ^ 7) sb.2.1 (by decide) (by decide) (by decide)
      unfold inB
      dsimp only at l1 l2 ⊢
      generalize decide (100 * a.1 * x1.2 < x1.1 * a.2) = c1 at l1 ⊢
      generalize decide (x2.1 * a.2 < 100 * a.1 * x2.2) = c2 at l2 ⊢
      simp [z2, i1, g2, g3, e01, v0, i2, i3, m1]
      rw [Ok_seq]
      cases c1 <;> cases c2 <;> simp [z2, i2, i3, m1, p1, p2, l1, l2])
  simp [it, hk1]
  rw [Ok_seq]
  rw [hle]
  generalize decide (ms = []) = d at hn
  generalize gs.all (gQ ms w) = g at hf
  cases d <;> cases c <;> simp [hn, hkeys, hk2, hne]
  rw [Ok_seq]
  cases g <;> simp [it, hf]
end G

set_option Elab.async false
set_option linter.all false
set_option maxRecDepth 100000
set_option maxHeartbeats 1000000
namespace G
open PySem L2 Fx
theorem val_lt' {a b : Fr} (ha : 0 < a.2) (hb : 0 < b.2) : val a < val b ↔ a.1 * b.2 < b.1 * a.2 := by
  have h1 : (0 : Rat) < (a.2 : Rat) := by exact_mod_cast ha
  have h2 : (0 : Rat) < (b.2 : Rat) := by exact_mod_cast hb
  unfold val
  rw [Rat.div_lt_iff h1]
  have e : (b.1 : Rat) / (b.2 : Rat) * (a.2 : Rat) = ((b.1 : Rat) * (a.2 : Rat)) / (b.2 : Rat) := by
    have := rat_pos hb
    grind
  rw [e, Rat.lt_div_iff h2]
  constructor
  · intro h
    exact_mod_cast h
  · intro h
    exact_mod_cast h
theorem inB_val {s l h : Fr} (hs : 0 < s.2) (hl : 0 < l.2) (hh : 0 < h.2) : inB s l h = !(decide (val s < val l) || decide (val h < val s)) := by
  unfold inB
  have e1 := val_lt' hs hl
  have e2 := val_lt' hh hs
  rw [decide_eq_decide.mpr e1, decide_eq_decide.mpr e2]
theorem rat_lo {x W l : Rat} (hW : 0 < W) : x / W < l / 100 ↔ 100 * x < W * l := by
  rw [Rat.div_lt_iff hW]
  have e : l / 100 * W = (W * l) / 100 := by grind
  rw [e, Rat.lt_div_iff (by decide)]
  rw [Rat.mul_comm x 100]
theorem rat_hi {x W h : Rat} (hW : 0 < W) : h / 100 < x / W ↔ W * h < 100 * x := by
  rw [Rat.div_lt_iff (by decide)]
  have e : x / W * 100 = (100 * x) / W := by grind
  rw [e, Rat.lt_div_iff hW, Rat.mul_comm h W]
theorem val_100 {a : Fr} (ha : 0 < a.2) : val (100 * a.1, a.2) = 100 * val a := by
  have := rat_pos ha
  unfold val
  push_cast
  grind
theorem low_n (n : Nat) : Low (n, 1) := ⟨Nat.one_pos, Nat.gcd_one_right n⟩
theorem val_n (n : Nat) : val (n, 1) = (n : Rat) := by
  unfold val
  grind
theorem in_same {a w : Fr} {lo hi : Nat} (ha : Low a) (hw : Low w) (h0 : 0 < val w) : inB (divF a w) (red lo 100) (red hi 100) = inB (100 * a.1, a.2) (mulF w (lo, 1)) (mulF w (hi, 1)) := by
  have w0 : 0 < w.1 := by
    have := (val_lt low01 hw).mp (by rw [val01]; exact h0)
    simpa using this
  have dl : Low (divF a w) := red_low (Nat.mul_pos ha.1 w0)
  have r100 : ∀ x, Low (red x 100) := fun x => red_low (by decide)
  have ml : ∀ x : Nat, Low (mulF w (x, 1)) := fun x => red_low (Nat.mul_pos hw.1 Nat.one_pos)
  rw [inB_val dl.1 (r100 lo).1 (r100 hi).1, inB_val (s := (100 * a.1, a.2)) ha.1 (ml lo).1 (ml hi).1]
  have v100 := val_100 ha.1
  have hr : ∀ x : Nat, val (red x 100) = (x : Rat) / 100 := fun x => by
    rw [val_red (by decide)]
    rfl
  rw [v100, val_div ha hw w0, hr, hr, val_mul hw (low_n _), val_mul hw (low_n _), val_n, val_n, decide_eq_decide.mpr (rat_lo h0), decide_eq_decide.mpr (rat_hi h0)]
theorem lets_same {b : Nat} {gs : Gr} {ms : Mix} (hg : GrOk gs) (h : AOk b ms) (o : ordM ms) (p : PosM ms) : letsP gs ms = letsL gs ms := by
  unfold letsP letsL
  by_cases e : ms = []
  · simp [e]
  congr 1
  obtain ⟨w1, w2, w3⟩ := whole_ok h
  have w0 : 0 < val (sumF (0, 1) ms) := by rw [w2]; exact sumR_pos p e
  generalize sumF (0, 1) ms = w at *
  have w0' : 0 < w.1 := by
    have := (val_lt low01 w1).mp (by rw [val01]; exact w0)
    simpa using this
  rw [Bool.eq_iff_iff]
  unfold bndL
  have hf := fold_all (fun r : Str × (Nat × Nat) => r.1) bndF (itB ms w) gs ((ms.map (·.1)).map fun k => (k, ((0, 1), (0, 1)))) hg.1
  refine hf.trans ?_
  rw [Bool.and_eq_true, List.all_eq_true, List.all_eq_true]
  have A : ∀ g ∈ gs, itB ms w (g.1, bndF g) = gQ ms w g := fun g hgm => by
    show inB (shr ms w g.1) (red g.2.1 100) (red g.2.2 100) = inB (100 * (amt ms g.1).1, (amt ms g.1).2) (mulF w (g.2.1, 1)) (mulF w (g.2.2, 1))
    have e1 : shr ms w g.1 = divF (amt ms g.1) w := by
      unfold shr amt
      cases findA ms g.1 with
      | none =>
        show (0, 1) = divF (0, 1) w
        unfold divF
        dsimp only
        rw [Nat.zero_mul, red_zero (by simpa using w0')]
      | some a => rfl
    rw [e1]
    refine in_same ?_ w1 w0
    unfold amt
    cases q : findA ms g.1 with
    | none => exact low01
    | some a => exact (findA_A h _ _ q).1
  have B : ∀ r ∈ ms, itB ms w (r.1, ((0, 1), (0, 1))) = false := fun r hr => by
    show inB (shr ms w r.1) (0, 1) (0, 1) = false
    have e1 : shr ms w r.1 = divF r.2 w := by
      unfold shr
      rw [(findA_some (ordM_nodup o)).mpr (show (r.1, r.2) ∈ ms from hr)]
      rfl
    rw [e1]
    have l := (h r hr).1
    have dl : Low (divF r.2 w) := red_low (Nat.mul_pos l.1 w0')
    rw [inB_val dl.1 Nat.one_pos Nat.one_pos, val01, val_div l w1 w0']
    have := p r hr
    have : 0 < val r.2 / val w := by
      rw [Rat.lt_div_iff w0, Rat.zero_mul]
      exact this
    simp [this]
  constructor
  · rintro ⟨h1, h2⟩
    refine ⟨fun r hr => ?_, fun g hgm => ?_⟩
    · rw [decide_eq_true_eq]
      apply Classical.byContradiction
      intro hc
      have := h2 (r.1, ((0, 1), (0, 1))) (List.mem_map.mpr ⟨r.1, List.mem_map.mpr ⟨r, hr, rfl⟩, rfl⟩) hc
      rw [B r hr] at this
      cases this
    · rw [← A g hgm]
      exact h1 g hgm
  · rintro ⟨h1, h2⟩
    refine ⟨fun g hgm => ?_, fun r hr hc => ?_⟩
    · rw [A g hgm]
      exact h2 g hgm
    · obtain ⟨k, hk, rfl⟩ := List.mem_map.mp hr
      obtain ⟨r2, hr2, rfl⟩ := List.mem_map.mp hk
      exact absurd (of_decide_eq_true (h1 r2 hr2)) hc
theorem t1 : letsP [("a", (29, 100)), ("b", (0, 70))] [("a", (30, 1)), ("b", (70, 1))] = true := by decide +kernel
theorem t2 : letsP [("a", (30, 100)), ("b", (0, 70))] [("a", (30, 1)), ("b", (70, 1))] = true := by decide +kernel
theorem t3 : letsP [("a", (31, 100)), ("b", (0, 70))] [("a", (30, 1)), ("b", (70, 1))] = false := by decide +kernel
theorem t4 : letsP [("a", (0, 29)), ("b", (0, 100)), ("c", (0, 5))] [("a", (30, 1)), ("b", (70, 1))] = false := by decide +kernel
theorem t5 : letsP [("a", (0, 30)), ("b", (0, 100)), ("c", (0, 5))] [("a", (30, 1)), ("b", (70, 1))] = true := by decide +kernel
theorem t6 : letsP [("a", (0, 31)), ("b", (0, 100)), ("c", (0, 5))] [("a", (30, 1)), ("b", (70, 1))] = true := by decide +kernel
theorem t7 : letsP [] [] = false := by decide +kernel
theorem t8 : letsP [("a", (0, 100))] [("a", (1, 2))] = true := by decide +kernel
end G

set_option Elab.async false
set_option linter.all false
set_option maxRecDepth 100000
set_option maxHeartbeats 1000000
namespace G
open PySem L2 Fx
/-! ### grades drawn -/
def bndP (a : Int × Int) : PV := .tup [.int a.1, .int a.2]
def BndOk (a : Int × Int) : Prop := 0 ≤ a.1 ∧ a.1 ≤ a.2 ∧ a.2 ≤ 100
def gradeP (ms : List (Str × (Int × Int))) : PV := .tup (ms.map fun r => .tup [.str r.1, .int r.2.1, .int r.2.2])
def GPULPS : List Str := ["birch", "pine", "rag", "straw", "a", "hemp"]
def GradeOk (ms : List (Str × (Int × Int))) : Prop := (ms.map (·.1)).Pairwise (fun a b => ltS a b = true) ∧ ∀ r ∈ ms, r.1 ∈ GPULPS ∧ BndOk r.2
theorem grade_gen {k : Nat} {L0 L : Store} {m : Nat} (h : TL k L0 (m + 31) L) : Ok (g__law_grade [.loc k] L) fun v L' => (∃ ms, v = gradeP ms ∧ GradeOk ms ∧ ms.length ≤ 5) ∧ TL k L0 m L' := by
  unfold g__law_grade
  rw [ok_def]
  unfold b__law_grade
  simp
  rw [Ok_seq]
  simp
  refine (draw_ok (m := m + 30) h (by omega) (by omega)).imp ?_
  rintro v L1 ⟨⟨i, rfl, h0, h1⟩, hT⟩
  have h2 : 1 + i < 4611686018427387904 := by omega
  have h3 : (-4611686018427387904 : Int) ≤ 1 + i := by omega
  simp [h2, h3]
  have hz8 : 8 ≤ sizeLine := by decide
  have hz2 : 2 ≤ sizeLine := by decide
  have hz3 : 3 ≤ sizeLine := by decide
  have hz5 : 5 ≤ sizeLine := by decide
  have hz6 : 6 ≤ sizeLine := by decide
  have hz1 : 1 ≤ sizeLine := by decide
  refine ok_loop (fun r s L => r.length ≤ 5 ∧ TL k L0 (m + 6 * r.length) L ∧ ∃ c y z u w, s = [.val (.loc k), .own c, y, z, u, w] ∧ SD bndP (fun k a => k ∈ GPULPS ∧ BndOk a) (5 - r.length) c) ?_ ?_ _ _ _ ?_
  · rintro x r s L ⟨hl, hT, c, y, z, u, w, rfl, hc⟩
    refine ⟨_, rfl, ?_⟩
    simp [hz5, hz6, hz2]
    rw [List.length_cons] at hT hl hc
    refine (draw_ok (m := m + 6 * r.length + 5) (hT.mono (by omega)) (by decide) (by decide)).imp ?_
    rintro v L1 ⟨⟨i, rfl, h0, h1⟩, hT⟩
    try simp
    refine (draw_ok (m := m + 6 * r.length + 4) hT (by decide) (by decide)).imp ?_
    rintro v L1 ⟨⟨j, rfl, h2, h3⟩, hT⟩
    obtain ⟨x, hx, e⟩ := ix_mem (xs := [PV.int 0, .int 0, .int 0, .int 10, .int i]) h2 (by simpa using h3)
    obtain ⟨lo, rfl, hlo⟩ : ∃ lo : Int, x = .int lo ∧ 0 ≤ lo ∧ lo ≤ 100 := by
      simp at hx
      rcases hx with rfl | rfl | rfl <;> exact ⟨_, rfl, by omega, by omega⟩
    simp [e]
    refine (draw_ok (m := m + 6 * r.length + 3) hT (by omega) (by omega)).imp ?_
    rintro v L1 ⟨⟨j, rfl, h2, h3⟩, hT⟩
    try simp
    refine (draw_ok (m := m + 6 * r.length + 2) hT (by decide) (by decide)).imp ?_
    rintro v L1 ⟨⟨l, rfl, h4, h5⟩, hT⟩
    obtain ⟨x, hx2, e2⟩ := ix_mem (xs := [PV.int 100, .int 100, .int lo, .int (if (60 : Int) > lo then 60 else lo), .int (lo + j)]) h4 (by simpa using h5)
    obtain ⟨hi, rfl, hhi⟩ : ∃ hi : Int, x = .int hi ∧ lo ≤ hi ∧ hi ≤ 100 := by
      simp only [List.mem_cons, List.not_mem_nil, or_false] at hx2
      rcases hx2 with rfl | rfl | rfl | rfl | rfl
      · exact ⟨_, rfl, by omega, by omega⟩
      · exact ⟨_, rfl, by omega, by omega⟩
      · exact ⟨_, rfl, by omega, by omega⟩
      · refine ⟨_, rfl, ?_, ?_⟩ <;> split <;> omega
      · exact ⟨_, rfl, by omega, by omega⟩
    simp only [gt_iff_lt] at e2
    simp [e2]
    refine (draw_ok (m := m + 6 * r.length + 1) hT (by decide) (by decide)).imp ?_
    rintro v L2 ⟨⟨q, rfl, h6, h7⟩, hT⟩
    obtain ⟨x, hx3, e3⟩ := ix_mem (xs := [PV.str "birch", .str "pine", .str "rag", .str "straw", .str "a", .str "hemp"]) h6 (by simpa using h7)
    obtain ⟨w, rfl, hw⟩ : ∃ w : Str, x = .str w ∧ w ∈ GPULPS := by
      unfold GPULPS
      simp at hx3
      rcases hx3 with rfl | rfl | rfl | rfl | rfl | rfl <;> exact ⟨_, rfl, by simp⟩
    obtain ⟨c', e1, hc'⟩ := hc.put (kt := true) (k := w) (a := (lo, hi)) (by omega) ⟨hw, hlo.1, hhi.1, hhi.2⟩
    unfold bndP at e1
    simp [e3, e1]
    exact ⟨by omega, hT.mono (by omega), hc'.mono (by omega)⟩
  · rintro s L ⟨_, hT, c, y, z, u, w, rfl, hc⟩
    simp
    obtain ⟨ms, q1, q2, q3, q4, q5⟩ := hc.sorted (kt := true) (L := L) (by simp)
    simp [q4]
    have hk := comp_srcY (t := gNm 5) (g := eOp hAdd (eTup (aCons (eVar 5) aNil)) (eOpH (hIx true) (hOwn 1) (eVar 5))) (s := [.val (.loc k), .own c, y, z, u, .no]) (L := L) (f := fun r : Str × (Int × Int) => PV.str r.1)
      (fun r => .tup [.str r.1, .int r.2.1, .int r.2.2]) (xs := ms) (fun r hr => ⟨_, rfl, by
        refine Ok.eq ?_
        have := q5 r hr
        unfold bndP at this
        simp [this, hz3, hz1]⟩) (Nat.le_trans (by simp at q2; omega : ms.length ≤ 64) (by decide))
    simp [hk]
    simp at q2
    exact ⟨⟨ms, rfl, ⟨q1, q3⟩, q2⟩, by simpa using hT⟩
  · have hl : (rgItems 0 (1 + i).toNat).length = (1 + i).toNat := by simp [rgItems]
    rw [hl]
    exact ⟨by omega, hT.mono (by omega), _, _, _, _, _, rfl, SD.nil.mono (by omega)⟩
/-! ### plain data -/
end G

set_option Elab.async false
set_option linter.all false
set_option maxRecDepth 100000
set_option maxHeartbeats 1000000
namespace G
open PySem L2 Fx
theorem grade_nat {gs : List (Str × (Int × Int))} (h : GradeOk gs) : ∃ g : Gr, gradeP gs = gradeN g ∧ GrOk g ∧ GKOk g ∧ g.length = gs.length ∧ (∀ r ∈ g, r.1 ∈ GPULPS) ∧ (g.map (·.1)).Pairwise (fun a b => ltS a b = true) ∧ ∀ r ∈ g, r.2.1 ≤ r.2.2 := by
  obtain ⟨h1, h2⟩ := h
  have ek : (gs.map fun r => (r.1, (r.2.1.toNat, r.2.2.toNat))).map (·.1) = gs.map (·.1) := by
    rw [List.map_map]
    rfl
  have nd : (gs.map (·.1)).Nodup := h1.imp fun {a b} q e => by
    subst e
    exact ltS_irrefl _ q
  refine ⟨gs.map fun r => (r.1, (r.2.1.toNat, r.2.2.toNat)), ?_, ⟨by rw [ek]; exact nd, fun r hr => ?_⟩, fun r hr => ?_, by simp, fun r hr => ?_, by rw [ek]; exact h1, fun r hr => ?_⟩
  · unfold gradeP gradeN
    rw [List.map_map]
    congr 1
    refine List.map_congr_left fun r hr => ?_
    obtain ⟨_, b1, b2, b3⟩ := h2 r hr
    show PV.tup [.str r.1, .int r.2.1, .int r.2.2] = .tup [.str r.1, .int (r.2.1.toNat : Nat), .int (r.2.2.toNat : Nat)]
    rw [Int.toNat_of_nonneg b1, Int.toNat_of_nonneg (by omega)]
  · obtain ⟨q, hq, rfl⟩ := List.mem_map.mp hr
    obtain ⟨_, b1, b2, b3⟩ := h2 q hq
    dsimp only
    omega
  · obtain ⟨q, hq, rfl⟩ := List.mem_map.mp hr
    have : ∀ x ∈ GPULPS, PyData.strOk x = true := by decide +kernel
    exact this _ (h2 q hq).1
  · obtain ⟨q, hq, rfl⟩ := List.mem_map.mp hr
    exact (h2 q hq).1
  · obtain ⟨q, hq, rfl⟩ := List.mem_map.mp hr
    obtain ⟨_, b1, b2, b3⟩ := h2 q hq
    dsimp only
    omega
end G

set_option Elab.async false
set_option linter.all false
set_option maxRecDepth 100000
set_option maxHeartbeats 1000000
namespace G
open PySem L2 Fx
/-! what between tells, and what that means -/
abbrev It := Str × (Fr × Fr)
def riseS (f1 f2 : Str → Fr) (p : Str) : Fs := subS (toS (f1 p)) (toS (f2 p))
def endS (f1 f2 : Str → Fr) (p : Str) (x : Fr) : Fs := divS (subS (toS x) (toS (f2 p))) (riseS f1 f2 p)
def btwL (f1 f2 : Str → Fr) : List It → Fs → Fs → Option (Fs × Fs)
  | [], l, g => some (l, g)
  | x :: r, l, g =>
    if riseS f1 f2 x.1 = (0, 1) then
      if decide (valS (toS (f2 x.1)) < valS (toS x.2.1)) || decide (valS (toS x.2.2) < valS (toS (f2 x.1))) then none else btwL f1 f2 r l g
    else
      let e0 := endS f1 f2 x.1 x.2.1
      let e1 := endS f1 f2 x.1 x.2.2
      let fi := if valS e0 < valS e1 then e0 else e1
      let la := if valS e0 < valS e1 then e1 else e0
      btwL f1 f2 r (if valS l < valS fi then fi else l) (if valS la < valS g then la else g)
def btwR (f1 f2 : Str → Fr) (its : List It) : Option (Fs × Fs) := match btwL f1 f2 its (0, 1) (1, 1) with
  | none => none
  | some (l, g) => if valS g < valS l then none else some (l, g)
/-- an item lets the share s by -/
def okI (f1 f2 : Str → Fr) (s : Rat) (x : It) : Prop := val x.2.1 ≤ val (f2 x.1) + s * (val (f1 x.1) - val (f2 x.1)) ∧ val (f2 x.1) + s * (val (f1 x.1) - val (f2 x.1)) ≤ val x.2.2
def FOk (f : Str → Fr) : Prop := ∀ p, Low (f p) ∧ Bd 51 (f p)
def ItOk (x : It) : Prop := Low x.2.1 ∧ Low x.2.2 ∧ Bd 7 x.2.1 ∧ Bd 7 x.2.2 ∧ val x.2.1 ≤ val x.2.2
section
variable {f1 f2 : Str → Fr}
theorem rise_low (h1 : FOk f1) (h2 : FOk f2) (p : Str) : LowS (riseS f1 f2 p) ∧ BdS 103 (riseS f1 f2 p) ∧ valS (riseS f1 f2 p) = val (f1 p) - val (f2 p) := by
  have a := lowS_to (h1 p).1
  have b := lowS_to (h2 p).1
  refine ⟨subS_low a b, subS_bd a b (bdS_to (h1 p).2) (bdS_to (h2 p).2), ?_⟩
  unfold riseS
  rw [valS_sub a b, valS_to, valS_to]
theorem rise_n0 (h1 : FOk f1) (h2 : FOk f2) {p : Str} (h : riseS f1 f2 p ≠ (0, 1)) : (riseS f1 f2 p).1 ≠ 0 := fun e => h ((valS_zero (rise_low h1 h2 p).1).mp e)
theorem end_low (h1 : FOk f1) (h2 : FOk f2) {p : Str} {x : Fr} (lx : Low x) (bx : Bd 7 x) (h : riseS f1 f2 p ≠ (0, 1)) : LowS (endS f1 f2 p x) ∧ BdS 162 (endS f1 f2 p x) ∧ valS (endS f1 f2 p x) = (val x - val (f2 p)) / (val (f1 p) - val (f2 p)) := by
  obtain ⟨r1, r2, r3⟩ := rise_low h1 h2 p
  have r0 := rise_n0 h1 h2 h
  have a := lowS_to lx
  have b := lowS_to (h2 p).1
  have s1 := subS_low a b
  have s2 := subS_bd a b (bdS_to bx) (bdS_to (h2 p).2)
  refine ⟨divS_low s1 r0, (divS_bd s1 r0 s2 r2).mono (by decide), ?_⟩
  unfold endS
  rw [valS_div s1 r1 r0, valS_sub a b, valS_to, valS_to, r3]
/-- one item whose share goes -/
theorem ends_mean {l h b r s : Rat} (hr : r ≠ 0) (hlh : l ≤ h) : (l ≤ b + s * r ∧ b + s * r ≤ h) ↔
    ((if (l - b) / r < (h - b) / r then (l - b) / r else (h - b) / r) ≤ s ∧ s ≤ (if (l - b) / r < (h - b) / r then (h - b) / r else (l - b) / r)) := by
  have key : ∀ x, 0 < r → ((x - b) / r ≤ s ↔ x ≤ b + s * r) ∧ (s ≤ (x - b) / r ↔ b + s * r ≤ x) := fun x hp => by
    have e1 := Rat.lt_div_iff (a := s) (b := x - b) hp
    have e2 := Rat.div_lt_iff (a := x - b) (c := s) hp
    constructor
    · rw [← Rat.not_lt, e1, Rat.not_lt]
      constructor <;> intro h <;> grind
    · rw [← Rat.not_lt, e2, Rat.not_lt]
      constructor <;> intro h <;> grind
  have keyn : ∀ x, r < 0 → ((x - b) / r ≤ s ↔ b + s * r ≤ x) ∧ (s ≤ (x - b) / r ↔ x ≤ b + s * r) := fun x hn => by
    have hp : 0 < -r := by grind
    have e : (x - b) / r = (b - x) / (-r) := by grind
    have e1 := Rat.lt_div_iff (a := s) (b := b - x) hp
    have e2 := Rat.div_lt_iff (a := b - x) (c := s) hp
    rw [e]
    constructor
    · rw [← Rat.not_lt, e1, Rat.not_lt]
      constructor <;> intro h <;> grind
    · rw [← Rat.not_lt, e2, Rat.not_lt]
      constructor <;> intro h <;> grind
  by_cases hp : 0 < r
  · obtain ⟨k1, k2⟩ := key l hp
    obtain ⟨k3, k4⟩ := key h hp
    by_cases c : (l - b) / r < (h - b) / r
    · rw [if_pos c, if_pos c, k1, k4]
    · rw [if_neg c, if_neg c]
      have c1 : (h - b) / r ≤ (l - b) / r := Rat.not_lt.mp c
      have c2 : (l - b) / r ≤ (h - b) / r := by
        have := (key l hp)
        have e1 := Rat.div_lt_iff (a := h - b) (c := (l - b) / r) hp
        rw [← Rat.not_lt, e1, Rat.not_lt]
        have : (l - b) / r * r = l - b := by grind
        rw [this]
        grind
      have c3 := Rat.le_antisymm c1 c2
      rw [c3]
      rw [c3] at k3 k4
      rw [k1, k4]
  · have hn : r < 0 := by grind
    obtain ⟨k1, k2⟩ := keyn l hn
    obtain ⟨k3, k4⟩ := keyn h hn
    have c : ¬ (l - b) / r < (h - b) / r := by
      have hp : 0 < -r := by grind
      have e1 : (l - b) / r = (b - l) / (-r) := by grind
      have e2 : (h - b) / r = (b - h) / (-r) := by grind
      have := Rat.lt_div_iff (a := (b - l) / (-r)) (b := b - h) hp
      rw [e1, e2, this]
      have : (b - l) / (-r) * (-r) = b - l := by grind
      rw [this]
      grind
    rw [if_neg c, if_neg c, k3, k2]
    exact And.comm
theorem btwL_ok (h1 : FOk f1) (h2 : FOk f2) : ∀ (its : List It) (l g : Fs), (∀ x ∈ its, ItOk x) → LowS l → LowS g → BdS 162 l → BdS 162 g →
    match btwL f1 f2 its l g with
    | none => ∀ s : Rat, ¬ ∀ x ∈ its, okI f1 f2 s x
    | some (l', g') => LowS l' ∧ LowS g' ∧ BdS 162 l' ∧ BdS 162 g' ∧ ∀ s : Rat, (valS l' ≤ s ∧ s ≤ valS g') ↔ (valS l ≤ s ∧ s ≤ valS g ∧ ∀ x ∈ its, okI f1 f2 s x)
  | [], l, g, _, a, b, c, d => ⟨a, b, c, d, fun s => by simp⟩
  | x :: r, l, g, hx, a, b, c, d => by
    obtain ⟨x1, x2, x3, x4, x5⟩ := hx x (by simp)
    have hx' : ∀ y ∈ r, ItOk y := fun y hy => hx y (by simp [hy])
    unfold btwL
    by_cases hr : riseS f1 f2 x.1 = (0, 1)
    · rw [if_pos hr]
      obtain ⟨r1, r2, r3⟩ := rise_low h1 h2 x.1
      rw [hr, valS01] at r3
      have hk : ∀ s, okI f1 f2 s x ↔ (val x.2.1 ≤ val (f2 x.1) ∧ val (f2 x.1) ≤ val x.2.2) := fun s => by
        unfold okI
        rw [← r3, Rat.mul_zero, Rat.add_zero]
      rw [valS_to, valS_to, valS_to]
      by_cases hc : (decide (val (f2 x.1) < val x.2.1) || decide (val x.2.2 < val (f2 x.1))) = true
      · rw [if_pos hc]
        intro s q
        have := (hk s).mp (q x (by simp))
        rw [Bool.or_eq_true, decide_eq_true_eq, decide_eq_true_eq] at hc
        rcases hc with hc | hc
        · exact absurd hc (Rat.not_lt.mpr this.1)
        · exact absurd hc (Rat.not_lt.mpr this.2)
      · rw [if_neg hc]
        have ho : ∀ s, okI f1 f2 s x := fun s => (hk s).mpr (by
          simp only [Bool.or_eq_true, decide_eq_true_eq, not_or] at hc
          exact ⟨Rat.not_lt.mp hc.1, Rat.not_lt.mp hc.2⟩)
        have ih := btwL_ok h1 h2 r l g hx' a b c d
        cases e : btwL f1 f2 r l g with
        | none =>
          rw [e] at ih
          exact fun s q => ih s fun y hy => q y (by simp [hy])
        | some lg =>
          rw [e] at ih
          obtain ⟨i1, i2, i3, i4, i5⟩ := ih
          refine ⟨i1, i2, i3, i4, fun s => (i5 s).trans ?_⟩
          simp [ho s]
    · rw [if_neg hr]
      obtain ⟨a1, a2, a3⟩ := end_low h1 h2 (p := x.1) x1 x3 hr
      obtain ⟨b1, b2, b3⟩ := end_low h1 h2 (p := x.1) x2 x4 hr
      obtain ⟨r1, r2, r3⟩ := rise_low h1 h2 x.1
      have rn : val (f1 x.1) - val (f2 x.1) ≠ 0 := by
        rw [← r3]
        intro q
        exact hr (lowS_ext r1 lowS01 (by rw [q, valS01]))
      have hm := fun s => ends_mean (s := s) (b := val (f2 x.1)) rn x5
      rw [← a3, ← b3] at hm
      dsimp only
      generalize endS f1 f2 x.1 x.2.1 = e0 at *
      generalize endS f1 f2 x.1 x.2.2 = e1 at *
      generalize hfi : (if valS e0 < valS e1 then e0 else e1) = fi
      generalize hla : (if valS e0 < valS e1 then e1 else e0) = la
      have hfi1 : LowS fi ∧ BdS 162 fi ∧ valS fi = if valS e0 < valS e1 then valS e0 else valS e1 := by
        rw [← hfi]
        split
        · exact ⟨a1, a2, rfl⟩
        · exact ⟨b1, b2, rfl⟩
      have hla1 : LowS la ∧ BdS 162 la ∧ valS la = if valS e0 < valS e1 then valS e1 else valS e0 := by
        rw [← hla]
        split
        · exact ⟨b1, b2, rfl⟩
        · exact ⟨a1, a2, rfl⟩
      have hk : ∀ s, okI f1 f2 s x ↔ (valS fi ≤ s ∧ s ≤ valS la) := fun s => by
        rw [hfi1.2.2, hla1.2.2]
        exact hm s
      have l1 : LowS (if valS l < valS fi then fi else l) ∧ BdS 162 (if valS l < valS fi then fi else l) ∧ ∀ s, valS (if valS l < valS fi then fi else l) ≤ s ↔ (valS l ≤ s ∧ valS fi ≤ s) := by
        split
        · exact ⟨hfi1.1, hfi1.2.1, fun s => by constructor <;> intro h <;> grind⟩
        · exact ⟨a, c, fun s => by constructor <;> intro h <;> grind⟩
      have g1 : LowS (if valS la < valS g then la else g) ∧ BdS 162 (if valS la < valS g then la else g) ∧ ∀ s, s ≤ valS (if valS la < valS g then la else g) ↔ (s ≤ valS g ∧ s ≤ valS la) := by
        split
        · exact ⟨hla1.1, hla1.2.1, fun s => by constructor <;> intro h <;> grind⟩
        · exact ⟨b, d, fun s => by constructor <;> intro h <;> grind⟩
      generalize (if valS l < valS fi then fi else l) = l2 at *
      generalize (if valS la < valS g then la else g) = g2 at *
      have ih := btwL_ok h1 h2 r l2 g2 hx' l1.1 g1.1 l1.2.1 g1.2.1
      cases e : btwL f1 f2 r l2 g2 with
      | none =>
        rw [e] at ih
        exact fun s q => ih s fun y hy => q y (by simp [hy])
      | some lg =>
        rw [e] at ih
        obtain ⟨i1, i2, i3, i4, i5⟩ := ih
        refine ⟨i1, i2, i3, i4, fun s => (i5 s).trans ?_⟩
        rw [l1.2.2, g1.2.2]
        have := hk s
        simp only [List.mem_cons, forall_eq_or_imp, this]
        constructor
        · rintro ⟨⟨q1, q2⟩, ⟨q3, q4⟩, q5⟩
          exact ⟨q1, q3, ⟨q2, q4⟩, q5⟩
        · rintro ⟨q1, q3, ⟨q2, q4⟩, q5⟩
          exact ⟨⟨q1, q2⟩, ⟨q3, q4⟩, q5⟩
end
/-- the shares that are let by -/
def InS (f1 f2 : Str → Fr) (its : List It) (s : Rat) : Prop := 0 ≤ s ∧ s ≤ 1 ∧ ∀ x ∈ its, okI f1 f2 s x
theorem valS11 : valS (1, 1) = 1 := by
  unfold valS
  grind
theorem btwR_ok {f1 f2 : Str → Fr} (h1 : FOk f1) (h2 : FOk f2) {its : List It} (h : ∀ x ∈ its, ItOk x) :
    match btwR f1 f2 its with
    | none => ∀ s : Rat, ¬ InS f1 f2 its s
    | some (l, g) => LowS l ∧ LowS g ∧ BdS 162 l ∧ BdS 162 g ∧ valS l ≤ valS g ∧ ∀ s : Rat, InS f1 f2 its s ↔ (valS l ≤ s ∧ s ≤ valS g) := by
  have q := btwL_ok h1 h2 its (0, 1) (1, 1) h lowS01 ⟨by decide, by decide⟩ ⟨by decide, by decide⟩ ⟨by decide, by decide⟩
  unfold btwR
  cases e : btwL f1 f2 its (0, 1) (1, 1) with
  | none =>
    rw [e] at q
    exact fun s ⟨_, _, h⟩ => q s h
  | some lg =>
    obtain ⟨l, g⟩ := lg
    rw [e] at q
    obtain ⟨i1, i2, i3, i4, i5⟩ := q
    rw [valS01, valS11] at i5
    dsimp only
    by_cases c : valS g < valS l
    · rw [if_pos c]
      intro s hs
      have := (i5 s).mpr hs
      exact absurd c (Rat.not_lt.mpr (Rat.le_trans this.1 this.2))
    · rw [if_neg c]
      exact ⟨i1, i2, i3, i4, Rat.not_lt.mp c, fun s => (i5 s).symm⟩
end G

set_option Elab.async false
set_option linter.all false
set_option maxRecDepth 100000
set_option maxHeartbeats 1000000
namespace G
open PySem L2 Fx
section
variable {α β : Type}
theorem dloop_put {t : TGF} {gk gv : EF} {s : Slots} {L : Store} {f : α → PV} (x : β → PV) (r : β → Str × α) : ∀ (xs : List β) (acc : List (Str × α)), (∀ y ∈ xs, ∃ s1, t (x y) s = some s1 ∧ gk s1 L = some (.ok (.str (r y).1) L) ∧ gv s1 L = some (.ok (f (r y).2) L)) →
    acc.length + xs.length ≤ sizeLine → dLoop t pYes gk gv s (xs.map x) (kvP f acc) L = some (.ok (.dk (kvP f (xs.foldl (fun acc y => putA acc (r y).1 (r y).2) acc))) L)
  | [], acc, _, _ => by simp [dLoop]
  | y :: xs, acc, h, hl => by
    obtain ⟨s1, h1, h2, h3⟩ := h y (by simp)
    rw [List.length_cons] at hl
    have ih := dloop_put (f := f) x r xs (putA acc (r y).1 (r y).2) (fun z hz => h z (by simp [hz])) (by have := putA_length acc (r y).1 (r y).2; omega)
    rw [List.map_cons]
    unfold dLoop
    rw [h1]
    show bndN (gk s1 L) _ = _
    rw [h2]
    show bndN (gv s1 L) _ = _
    rw [h3]
    show (if (kvP f acc).length < sizeLine then dLoop t pYes gk gv s (xs.map x) (put (kvP f acc) (.inr (r y).1) (f (r y).2)) L else none) = _
    rw [if_pos (by unfold kvP; rw [List.length_map]; omega), kvP_put, ih]
    rfl
theorem const_all (z : α) (q : Str × α → Bool) : ∀ (ks : List Str) (acc : List (Str × α)), ((ks.foldl (fun acc k => putA acc k z) acc).all q = true ↔ (∀ k ∈ ks, q (k, z) = true) ∧ ∀ r ∈ acc, r.1 ∉ ks → q r = true)
  | [], acc => by simp
  | k :: ks, acc => by
    rw [List.foldl_cons, const_all z q ks]
    have h1 : (∀ r ∈ putA acc k z, r.1 ∉ ks → q r = true) ↔ (putA acc k z).all (fun r => decide (r.1 ∈ ks) || q r) = true := by
      rw [List.all_eq_true]
      constructor
      · intro h r hr
        by_cases c : r.1 ∈ ks
        · simp [c]
        · simp [h r hr c]
      · intro h r hr c
        have := h r hr
        rw [Bool.or_eq_true, decide_eq_true_eq] at this
        exact this.resolve_left c
    rw [h1, all_put]
    simp only [Bool.or_eq_true, decide_eq_true_eq, List.mem_cons, not_or]
    constructor
    · rintro ⟨a1, h2, h3⟩
      refine ⟨fun x hx => ?_, fun r hr hk => ?_⟩
      · rcases hx with e | hx
        · rw [e]
          rcases h2 with h2 | h2
          · exact a1 _ h2
          · exact h2
        · exact a1 x hx
      · exact (h3 r hr hk.1).resolve_left hk.2
    · rintro ⟨a1, h2⟩
      refine ⟨fun x hx => a1 x (.inr hx), .inr (a1 k (.inl rfl)), fun r hr hk => ?_⟩
      by_cases c : r.1 ∈ ks
      · exact .inl c
      · exact .inr (h2 r hr ⟨hk, c⟩)
end
def ZZ : Fr × Fr := ((0, 1), (0, 1))
def bndL2 (gs : Gr) (ks : List Str) : List It := gs.foldl stB (ks.foldl (fun acc k => putA acc k ZZ) [])
theorem foldput_len : ∀ (ks : List Str) (acc : List It), (ks.foldl (fun acc k => putA acc k ZZ) acc).length ≤ acc.length + ks.length
  | [], acc => by simp
  | k :: ks, acc => by
    have := foldput_len ks (putA acc k ZZ)
    have := putA_length acc k ZZ
    rw [List.foldl_cons, List.length_cons]
    omega
theorem bndL2_all (q : It → Bool) {gs : Gr} (hg : (gs.map (·.1)).Nodup) (ks : List Str) : (bndL2 gs ks).all q = true ↔ (∀ g ∈ gs, q (g.1, bndF g) = true) ∧ ∀ k ∈ ks, k ∉ gs.map (·.1) → q (k, ZZ) = true := by
  unfold bndL2
  have h := fold_all (fun r : Str × (Nat × Nat) => r.1) bndF q gs (ks.foldl (fun acc k => putA acc k ZZ) []) hg
  refine h.trans ?_
  have h2 := const_all ZZ (fun r => decide (r.1 ∈ gs.map (·.1)) || q r) ks []
  have h3 : (∀ r ∈ ks.foldl (fun acc k => putA acc k ZZ) [], r.1 ∉ gs.map (·.1) → q r = true) ↔ (ks.foldl (fun acc k => putA acc k ZZ) []).all (fun r => decide (r.1 ∈ gs.map (·.1)) || q r) = true := by
    rw [List.all_eq_true]
    constructor
    · intro h r hr
      by_cases c : r.1 ∈ gs.map (·.1)
      · simp [c]
      · simp [h r hr c]
    · intro h r hr c
      have := h r hr
      rw [Bool.or_eq_true, decide_eq_true_eq] at this
      exact this.resolve_left c
  rw [h3, h2]
  constructor
  · rintro ⟨a, b, _⟩
    refine ⟨a, fun k hk hc => ?_⟩
    have := b k hk
    rw [Bool.or_eq_true, decide_eq_true_eq] at this
    exact this.resolve_left hc
  · rintro ⟨a, b⟩
    refine ⟨a, fun k hk => ?_, by simp⟩
    by_cases c : k ∈ gs.map (·.1)
    · simp [c]
    · simp [b k hk c]
theorem bounds_okL {L : Store} {gs : Gr} {ks : List Str} (hg : GrOk gs) (hl : ks.length + gs.length ≤ 1000) : g_bounds [gradeN gs, .lst (ks.map PV.str)] L = some (.ok (dkP bdP (bndL2 gs ks)) L) := by
  refine Ok.eq ?_
  unfold g_bounds
  rw [ok_def]
  unfold b_bounds
  have z2 : 2 ≤ sizeLine := by decide
  have hd := dloop_put (t := gNm 2) (gk := eVar 2) (gv := eTup (aCons (eC (.tup ([0, 1].map PV.int))) (aCons (eC (.tup ([0, 1].map PV.int))) aNil))) (s := [.val (gradeN gs), .val (.lst (ks.map PV.str)), .no, .no, .no, .no]) (L := L) (f := bdP) PV.str (fun k => (k, ZZ)) ks []
    (fun r hr => ⟨[.val (gradeN gs), .val (.lst (ks.map PV.str)), .val (.str r), .no, .no, .no], rfl, rfl, by
      refine Ok.eq ?_
      simp [z2, bdP, frP, ZZ]⟩) (Nat.le_trans (by simp; omega : _ ≤ 1000) (by decide))
  have it : itemsOf (gradeN gs) = some (gs.map gRowP) := rfl
  have it2 : itemsOf (.lst (ks.map PV.str)) = some (ks.map PV.str) := rfl
  have nn : ([] : List (Key × PV)) = kvP bdP [] := rfl
  simp only [List.map_cons, List.map_nil] at hd
  have hle := foldput_len ks []
  obtain ⟨x', y', z', e⟩ := bounds_loop (L := L) (m := .val (gradeN gs)) (n := .val (.lst (ks.map PV.str))) gs (ks.foldl (fun acc k => putA acc k ZZ) []) .no .no .no hg.2 (by simp at hle; omega)
  generalize hk : ks.map PV.str = kp at *
  simp [it2]
  rw [nn, hd]
  simp
  rw [Ok_seq]
  simp [it, e]
  rw [kv_dkP]
  rfl
end G

set_option Elab.async false
set_option linter.all false
set_option maxRecDepth 100000
set_option maxHeartbeats 1000000
namespace G
open PySem L2 Fx
theorem frS_eq (a b : Fs) : hEq (frS a) (frS b) = some (.bl (decide (a = b))) := by
  obtain ⟨a1, a2⟩ := a
  obtain ⟨b1, b2⟩ := b
  show some (PV.bl (pveqs [.int a1, .int a2] [.int b1, .int b2])) = _
  congr 2
  simp [pveqs, pveq]
  rw [Bool.eq_iff_iff]
  simp
  omega
def itP (x : It) : PV := .tup [.str x.1, bdP x.2]
theorem gls2 (s : Slots) (a b : PV) : gLs (gCns (gNm 13) (gCns (gNm 14) gNls)) (.lst [a, b]) s = some ((s.set 13 (.val a)).set 14 (.val b)) := rfl
/-- one mixture's table, as the walk finds it -/
def Tab (d : PV) (f : Str → Fr) : Prop := FOk f ∧ ∀ (L : Store), ∃ w, isDv (some w) = true ∧ view L (.v d) = some w ∧ ∀ p, ∃ o, dLook' true w (.str p) = some o ∧ o.getD (.tup [.int 0, .int 1]) = frS (toS (f p))
theorem btw_loop {L : Store} {f1 f2 : Str → Fr} {a0 a1 a2 : SV} {d1 d2 : PV} (t1 : Tab d1 f1) (t2 : Tab d2 f2) : ∀ (its : List It) (l g : Fs) (y7 y8 y9 y10 y11 y12 y13 y14 : SV), (∀ x ∈ its, ItOk x) → LowS l → LowS g → BdS 162 l → BdS 162 g →
    ∃ z7 z8 z9 z10 z11 z12 z13 z14, fLoop (gTp (gCns (gNm 7) (gCns (gTp (gCns (gNm 8) (gCns (gNm 9) gNls))) gNls))) (sSeq (sSet 10 (eGet true (hE (eVar 4)) (eVar 7) (eC (.tup [.int 0, .int 1]))))
    (sSeq (sSet 11 (eCall 2 g_minus (aCons (eGet true (hE (eVar 3)) (eVar 7) (eC (.tup [.int 0, .int 1]))) (aCons (eVar 10) aNil)) []))
    (sSeq (sIf (bB (eOp hEq (eVar 11) (eC (.tup [.int 0, .int 1])))) (sSeq (sIf (bOr (bB (eCall 2 g_is_less (aCons (eVar 10) (aCons (eVar 8) aNil)) [])) (bB (eCall 2 g_is_less (aCons (eVar 9) (aCons (eVar 10) aNil)) []))) (sRet (eC .non)) sNx)
    sCt) sNx)
    (sSeq (sSet 12 (eFrz (nLst (aCons (eCall 2 g_by (aCons (eCall 2 g_minus (aCons (eVar 8) (aCons (eVar 10) aNil)) []) (aCons (eVar 11) aNil)) []) (aCons (eCall 2 g_by (aCons (eCall 2 g_minus (aCons (eVar 9) (aCons (eVar 10) aNil)) []) (aCons (eVar 11) aNil)) []) aNil)))))
    (sSeq (sAsg (eIf (bB (eCall 2 g_is_less (aCons (eOpH (hIx true) (hE (eVar 12)) (eC (.int 0))) (aCons (eOpH (hIx true) (hE (eVar 12)) (eC (.int 1))) aNil)) [])) (eVar 12) (eFrz (nCall1 nRev (hE (eVar 12))))) (gLs (gCns (gNm 13) (gCns (gNm 14) gNls))))
    (sSeq (sSet 5 (eIf (bB (eCall 2 g_is_less (aCons (eVar 5) (aCons (eVar 13) aNil)) [])) (eVar 13) (eVar 5)))
    (sSet 6 (eIf (bB (eCall 2 g_is_less (aCons (eVar 14) (aCons (eVar 6) aNil)) [])) (eVar 14) (eVar 6))))))))) (its.map itP) [a0, a1, a2, .val d1, .val d2, .val (frS l), .val (frS g), y7, y8, y9, y10, y11, y12, y13, y14] L = some (.ok (match btwL f1 f2 its l g with
      | none => .rt .non
      | some (l', g') => .nx [a0, a1, a2, .val d1, .val d2, .val (frS l'), .val (frS g'), z7, z8, z9, z10, z11, z12, z13, z14]) L)
  | [], l, g, y7, y8, y9, y10, y11, y12, y13, y14, _, _, _, _, _ => ⟨_, _, _, _, _, _, _, _, rfl⟩
  | x :: r, l, g, y7, y8, y9, y10, y11, y12, y13, y14, hx, la, lb, ka, kb => by
    obtain ⟨x1, x2, x3, x4, x5⟩ := hx x (by simp)
    have hx' : ∀ y ∈ r, ItOk y := fun y hy => hx y (by simp [hy])
    obtain ⟨h1, t1'⟩ := t1
    obtain ⟨h2, t2'⟩ := t2
    obtain ⟨w1, i1, v1, k1⟩ := t1' L
    obtain ⟨w2, i2, v2, k2⟩ := t2' L
    obtain ⟨o1, k1, g1⟩ := k1 x.1
    obtain ⟨o2, k2, g2⟩ := k2 x.1
    obtain ⟨r1, r2, r3⟩ := rise_low h1 h2 x.1
    have m := minus_okS (L := L) (lowS_to (h1 x.1).1) (lowS_to (h2 x.1).1) (bdS_to (h1 x.1).2) (bdS_to (h2 x.1).2) (by decide) (by decide) (by decide)
    have m : g_minus [frS (toS (f1 x.1)), frS (toS (f2 x.1))] L = some (.ok (frS (riseS f1 f2 x.1)) L) := m
    have ht : ∀ s : Slots, gTp (gCns (gNm 7) (gCns (gTp (gCns (gNm 8) (gCns (gNm 9) gNls))) gNls)) (itP x) s = some (((s.set 7 (.val (.str x.1))).set 8 (.val (frS (toS x.2.1)))).set 9 (.val (frS (toS x.2.2)))) := fun s => rfl
    have e01 : PV.tup [.int 0, .int 1] = frS (0, 1) := rfl
    rw [e01] at g1 g2
    have heq := frS_eq (riseS f1 f2 x.1) (0, 1)
    rw [List.map_cons]
    unfold fLoop
    rw [ht]
    dsimp only [List.set]
    by_cases hr : riseS f1 f2 x.1 = (0, 1)
    · have l1 := is_less_okS (L := L) (bdS_to (h2 x.1).2) (bdS_to x3) (lowS_to (h2 x.1).1) (lowS_to x1) (by decide) (by decide) (by decide)
      have l2 := is_less_okS (L := L) (bdS_to x4) (bdS_to (h2 x.1).2) (lowS_to x2) (lowS_to (h2 x.1).1) (by decide) (by decide) (by decide)
      rw [hr] at m heq
      have heq : hEq (frS (0, 1)) (frS (0, 1)) = some (.bl true) := heq
      have hb : (sSeq (sSet 10 (eGet true (hE (eVar 4)) (eVar 7) (eC (.tup [.int 0, .int 1]))))
    (sSeq (sSet 11 (eCall 2 g_minus (aCons (eGet true (hE (eVar 3)) (eVar 7) (eC (.tup [.int 0, .int 1]))) (aCons (eVar 10) aNil)) []))
    (sSeq (sIf (bB (eOp hEq (eVar 11) (eC (.tup [.int 0, .int 1])))) (sSeq (sIf (bOr (bB (eCall 2 g_is_less (aCons (eVar 10) (aCons (eVar 8) aNil)) [])) (bB (eCall 2 g_is_less (aCons (eVar 9) (aCons (eVar 10) aNil)) []))) (sRet (eC .non)) sNx)
    sCt) sNx)
    (sSeq (sSet 12 (eFrz (nLst (aCons (eCall 2 g_by (aCons (eCall 2 g_minus (aCons (eVar 8) (aCons (eVar 10) aNil)) []) (aCons (eVar 11) aNil)) []) (aCons (eCall 2 g_by (aCons (eCall 2 g_minus (aCons (eVar 9) (aCons (eVar 10) aNil)) []) (aCons (eVar 11) aNil)) []) aNil)))))
    (sSeq (sAsg (eIf (bB (eCall 2 g_is_less (aCons (eOpH (hIx true) (hE (eVar 12)) (eC (.int 0))) (aCons (eOpH (hIx true) (hE (eVar 12)) (eC (.int 1))) aNil)) [])) (eVar 12) (eFrz (nCall1 nRev (hE (eVar 12))))) (gLs (gCns (gNm 13) (gCns (gNm 14) gNls))))
    (sSeq (sSet 5 (eIf (bB (eCall 2 g_is_less (aCons (eVar 5) (aCons (eVar 13) aNil)) [])) (eVar 13) (eVar 5)))
    (sSet 6 (eIf (bB (eCall 2 g_is_less (aCons (eVar 14) (aCons (eVar 6) aNil)) [])) (eVar 14) (eVar 6))))))))) [a0, a1, a2, .val d1, .val d2, .val (frS l), .val (frS g), .val (.str x.1), .val (frS (toS x.2.1)), .val (frS (toS x.2.2)), y10, y11, y12, y13, y14] L =
          some (.ok (if (decide (valS (toS (f2 x.1)) < valS (toS x.2.1)) || decide (valS (toS x.2.2) < valS (toS (f2 x.1)))) = true then .rt .non else .ct [a0, a1, a2, .val d1, .val d2, .val (frS l), .val (frS g), .val (.str x.1), .val (frS (toS x.2.1)), .val (frS (toS x.2.2)), .val (frS (toS (f2 x.1))), .val (frS (0, 1)), y12, y13, y14]) L) := by
        refine Ok.eq ?_
        generalize decide (valS (toS (f2 x.1)) < valS (toS x.2.1)) = c1 at l1 ⊢
        generalize decide (valS (toS x.2.2) < valS (toS (f2 x.1))) = c2 at l2 ⊢
        simp [e01, i1, v1, k1, g1, i2, v2, k2, g2, m]
        rw [Ok_seq]
        cases c1 <;> cases c2 <;> simp [heq, l1, l2, Ok_seq]
      rw [hb]
      unfold btwL
      rw [if_pos hr]
      cases hc : (decide (valS (toS (f2 x.1)) < valS (toS x.2.1)) || decide (valS (toS x.2.2) < valS (toS (f2 x.1)))) with
      | true => exact ⟨y7, y8, y9, y10, y11, y12, y13, y14, rfl⟩
      | false => exact btw_loop ⟨h1, t1'⟩ ⟨h2, t2'⟩ r l g _ _ _ _ _ _ _ _ hx' la lb ka kb
    · obtain ⟨a1', a2', a3'⟩ := end_low h1 h2 (p := x.1) x1 x3 hr
      obtain ⟨b1', b2', b3'⟩ := end_low h1 h2 (p := x.1) x2 x4 hr
      have r0 := rise_n0 h1 h2 hr
      have q1 := minus_okS (L := L) (lowS_to x1) (lowS_to (h2 x.1).1) (bdS_to x3) (bdS_to (h2 x.1).2) (by decide) (by decide) (by decide)
      have q2 := minus_okS (L := L) (lowS_to x2) (lowS_to (h2 x.1).1) (bdS_to x4) (bdS_to (h2 x.1).2) (by decide) (by decide) (by decide)
      have p1 := by_okS (L := L) (subS_low (lowS_to x1) (lowS_to (h2 x.1).1)) r1 r0 (subS_bd (lowS_to x1) (lowS_to (h2 x.1).1) (bdS_to x3) (bdS_to (h2 x.1).2)) r2 (by decide) (by decide) (by decide)
      have p2 := by_okS (L := L) (subS_low (lowS_to x2) (lowS_to (h2 x.1).1)) r1 r0 (subS_bd (lowS_to x2) (lowS_to (h2 x.1).1) (bdS_to x4) (bdS_to (h2 x.1).2)) r2 (by decide) (by decide) (by decide)
      have p1 : g_by [frS (subS (toS x.2.1) (toS (f2 x.1))), frS (riseS f1 f2 x.1)] L = some (.ok (frS (endS f1 f2 x.1 x.2.1)) L) := p1
      have p2 : g_by [frS (subS (toS x.2.2) (toS (f2 x.1))), frS (riseS f1 f2 x.1)] L = some (.ok (frS (endS f1 f2 x.1 x.2.2)) L) := p2
      have heq : hEq (frS (riseS f1 f2 x.1)) (frS (0, 1)) = some (.bl false) := by rw [heq]; simp [hr]
      unfold btwL
      rw [if_neg hr]
      dsimp only
      generalize endS f1 f2 x.1 x.2.1 = e0 at *
      generalize endS f1 f2 x.1 x.2.2 = e1 at *
      have le := is_less_okS (L := L) a2' b2' a1' b1' (by decide) (by decide) (by decide)
      have z2 : 2 ≤ sizeLine := by decide
      have hb : ∀ fi la' : Fs, LowS fi → LowS la' → BdS 162 fi → BdS 162 la' → ((valS e0 < valS e1 → fi = e0 ∧ la' = e1) ∧ (¬ valS e0 < valS e1 → fi = e1 ∧ la' = e0)) → ∃ z7 z8 z9 z10 z11 z12 z13 z14, (sSeq (sSet 10 (eGet true (hE (eVar 4)) (eVar 7) (eC (.tup [.int 0, .int 1]))))
    (sSeq (sSet 11 (eCall 2 g_minus (aCons (eGet true (hE (eVar 3)) (eVar 7) (eC (.tup [.int 0, .int 1]))) (aCons (eVar 10) aNil)) []))
    (sSeq (sIf (bB (eOp hEq (eVar 11) (eC (.tup [.int 0, .int 1])))) (sSeq (sIf (bOr (bB (eCall 2 g_is_less (aCons (eVar 10) (aCons (eVar 8) aNil)) [])) (bB (eCall 2 g_is_less (aCons (eVar 9) (aCons (eVar 10) aNil)) []))) (sRet (eC .non)) sNx)
    sCt) sNx)
    (sSeq (sSet 12 (eFrz (nLst (aCons (eCall 2 g_by (aCons (eCall 2 g_minus (aCons (eVar 8) (aCons (eVar 10) aNil)) []) (aCons (eVar 11) aNil)) []) (aCons (eCall 2 g_by (aCons (eCall 2 g_minus (aCons (eVar 9) (aCons (eVar 10) aNil)) []) (aCons (eVar 11) aNil)) []) aNil)))))
    (sSeq (sAsg (eIf (bB (eCall 2 g_is_less (aCons (eOpH (hIx true) (hE (eVar 12)) (eC (.int 0))) (aCons (eOpH (hIx true) (hE (eVar 12)) (eC (.int 1))) aNil)) [])) (eVar 12) (eFrz (nCall1 nRev (hE (eVar 12))))) (gLs (gCns (gNm 13) (gCns (gNm 14) gNls))))
    (sSeq (sSet 5 (eIf (bB (eCall 2 g_is_less (aCons (eVar 5) (aCons (eVar 13) aNil)) [])) (eVar 13) (eVar 5)))
    (sSet 6 (eIf (bB (eCall 2 g_is_less (aCons (eVar 14) (aCons (eVar 6) aNil)) [])) (eVar 14) (eVar 6))))))))) [a0, a1, a2, .val d1, .val d2, .val (frS l), .val (frS g), .val (.str x.1), .val (frS (toS x.2.1)), .val (frS (toS x.2.2)), y10, y11, y12, y13, y14] L =
          some (.ok (.nx [a0, a1, a2, .val d1, .val d2, .val (frS (if valS l < valS fi then fi else l)), .val (frS (if valS la' < valS g then la' else g)), z7, z8, z9, z10, z11, z12, z13, z14]) L) := fun fi la' f1' f2' f3' f4' hf => by
        have l1 := is_less_okS (L := L) ka f3' la f1' (by decide) (by decide) (by decide)
        have l2 := is_less_okS (L := L) f4' kb f2' lb (by decide) (by decide) (by decide)
        refine ⟨.val (.str x.1), .val (frS (toS x.2.1)), .val (frS (toS x.2.2)), .val (frS (toS (f2 x.1))), .val (frS (riseS f1 f2 x.1)), .val (.lst [frS e0, frS e1]), .val (frS fi), .val (frS la'), Ok.eq ?_⟩
        have c1 : ∀ {p : Prop} [Decidable p] (a b : Fs), (if p then frS a else frS b) = frS (if p then a else b) := fun a b => by split <;> rfl
        have u1 : frS (if valS l < valS fi then fi else l) = if decide (valS l < valS fi) = true then frS fi else frS l := by
          by_cases c : valS l < valS fi <;> simp [c]
        have u2 : frS (if valS la' < valS g then la' else g) = if decide (valS la' < valS g) = true then frS la' else frS g := by
          by_cases c : valS la' < valS g <;> simp [c]
        rw [u1, u2]
        generalize decide (valS l < valS fi) = c1' at l1 ⊢
        generalize decide (valS la' < valS g) = c2' at l2 ⊢
        simp [e01, i1, v1, k1, g1, i2, v2, k2, g2, m]
        rw [Ok_seq]
        simp [heq, q1, q2, p1, p2, z2]
        by_cases c : valS e0 < valS e1
        · obtain ⟨rfl, rfl⟩ := hf.1 c
          have le : g_is_less [frS fi, frS la'] L = some (.ok (.bl true) L) := by rw [le]; simp [c]
          simp [le, gls2]
          cases c1' <;> cases c2' <;> simp [l1, l2]
        · obtain ⟨rfl, rfl⟩ := hf.2 c
          have le : g_is_less [frS la', frS fi] L = some (.ok (.bl false) L) := by rw [le]; simp [c]
          have nr : nRev L (.v (.lst [frS la', frS fi])) = some (.lst [frS fi, frS la']) := rfl
          simp [le, gls2, nr]
          cases c1' <;> cases c2' <;> simp [l1, l2]
      have pick : ∀ {p : Prop} [Decidable p] (a b : Fs), LowS a → LowS b → BdS 162 a → BdS 162 b → LowS (if p then a else b) ∧ BdS 162 (if p then a else b) := fun a b h1 h2 h3 h4 => by
        split
        · exact ⟨h1, h3⟩
        · exact ⟨h2, h4⟩
      by_cases c : valS e0 < valS e1
      · rw [if_pos c, if_pos c]
        obtain ⟨z7, z8, z9, z10, z11, z12, z13, z14, hb⟩ := hb e0 e1 a1' b1' a2' b2' ⟨fun _ => ⟨rfl, rfl⟩, fun h => absurd c h⟩
        rw [hb]
        have pl := pick (p := valS l < valS e0) e0 l a1' la a2' ka
        have pg := pick (p := valS e1 < valS g) e1 g b1' lb b2' kb
        exact btw_loop ⟨h1, t1'⟩ ⟨h2, t2'⟩ r _ _ _ _ _ _ _ _ _ _ hx' pl.1 pg.1 pl.2 pg.2
      · rw [if_neg c, if_neg c]
        obtain ⟨z7, z8, z9, z10, z11, z12, z13, z14, hb⟩ := hb e1 e0 b1' a1' b2' a2' ⟨fun h => absurd h c, fun _ => ⟨rfl, rfl⟩⟩
        rw [hb]
        have pl := pick (p := valS l < valS e1) e1 l b1' la b2' ka
        have pg := pick (p := valS e0 < valS g) e0 g a1' lb a2' kb
        exact btw_loop ⟨h1, t1'⟩ ⟨h2, t2'⟩ r _ _ _ _ _ _ _ _ _ _ hx' pl.1 pg.1 pl.2 pg.2
end G

set_option Elab.async false
set_option linter.all false
set_option maxRecDepth 100000
set_option maxHeartbeats 1000000
namespace G
open PySem L2 Fx
/-- a mixture that between is asked about -/
structure MixT (ms : Mix) : Prop where
  a : AOk 20 ms
  k : KOk ms
  o : ordM ms
  p : PosM ms
  n : ms ≠ []
  l : ms.length ≤ 4
  b : Bd 31 (sumF (0, 1) ms)
  s : ∀ r ∈ ms, PyData.strOk r.1 = true
def shF (ms : Mix) : Str → Fr := shr ms (sumF (0, 1) ms)
theorem MixT.w {ms : Mix} (h : MixT ms) : Low (sumF (0, 1) ms) ∧ val (sumF (0, 1) ms) = sumR ms ∧ 0 < val (sumF (0, 1) ms) ∧ 0 < (sumF (0, 1) ms).1 := by
  obtain ⟨w1, w2, w3⟩ := whole_ok h.a
  have w0 : 0 < val (sumF (0, 1) ms) := by rw [w2]; exact sumR_pos h.p h.n
  have := (val_lt low01 w1).mp (by rw [val01]; exact w0)
  exact ⟨w1, w2, w0, by simpa using this⟩
theorem MixT.f {ms : Mix} (h : MixT ms) : FOk (shF ms) := fun p => by
  obtain ⟨w1, w2, w0, w0'⟩ := h.w
  unfold shF shr
  cases q : findA ms p with
  | none => exact ⟨low01, bd01.mono (by decide)⟩
  | some a =>
    obtain ⟨q1, q2⟩ := findA_A h.a p a q
    exact ⟨red_low (Nat.mul_pos q1.1 w0'), divF_bd q2 h.b⟩
theorem MixT.t {ms : Mix} (h : MixT ms) : Tab (dkP frP (shM1 ms (sumF (0, 1) ms))) (shF ms) := by
  refine ⟨h.f, fun L => ⟨.dk (kvP frP (shM1 ms (sumF (0, 1) ms))), rfl, (dkP_get (kt := true) (k := "")).2.1, fun p => ⟨_, (dkP_get (L := L) (kt := true) (k := p)).2.2, ?_⟩⟩⟩
  rw [look_kvP, shM1_find]
  unfold shF shr
  cases findA ms p <;> rfl
theorem dkP_list {α : Type} {f : α → PV} {L : Store} (ms : List (Str × α)) : nList L (.v (dkP f ms)) = some (.lst ((ms.map (·.1)).map PV.str)) := by
  show nListV L (.v (dkP f ms)) = _
  unfold nListV
  rw [(dkP_get (L := L) (kt := true) (k := "") (f := f) (ms := ms)).2.1]
  dsimp only
  unfold kvP
  rw [List.map_map, List.map_map]
  rfl
def keysM (ms : Mix) : List Str := ms.map (·.1)
def itsOf (gs : Gr) (one two : Mix) : List It := bndL2 gs (keysM one ++ keysM two)
def btwO (gs : Gr) (one two : Mix) : Option (Fs × Fs) := btwR (shF one) (shF two) (itsOf gs one two)
def btwV : Option (Fs × Fs) → PV
  | none => .non
  | some (l, g) => .tup [frS l, frS g]
def GrT (gs : Gr) : Prop := GrOk gs ∧ (∀ r ∈ gs, r.2.1 ≤ r.2.2) ∧ gs.length ≤ 5
theorem red100 {x : Nat} (hx : x ≤ 100) : Low (red x 100) ∧ Bd 7 (red x 100) ∧ val (red x 100) = (x : Rat) / 100 :=
  ⟨red_low (by decide), bd_red (Nat.lt_of_le_of_lt hx (by decide)) (by decide), by rw [val_red (by decide)]; rfl⟩
theorem its_ok {gs : Gr} (hg : GrT gs) (one two : Mix) : ∀ x ∈ itsOf gs one two, ItOk x := by
  classical
  have h : (itsOf gs one two).all (fun x => decide (ItOk x)) = true := (bndL2_all (fun x => decide (ItOk x)) hg.1.1 _).mpr ⟨fun g hgm => by
    obtain ⟨b1, b2⟩ := hg.1.2 g hgm
    have b3 := hg.2.1 g hgm
    rw [decide_eq_true_eq]
    obtain ⟨p1, p2, p3⟩ := red100 b1
    obtain ⟨q1, q2, q3⟩ := red100 b2
    refine ⟨p1, q1, p2, q2, ?_⟩
    show val (red g.2.1 100) ≤ val (red g.2.2 100)
    rw [p3, q3]
    have : ((g.2.1 : Nat) : Rat) ≤ ((g.2.2 : Nat) : Rat) := by exact_mod_cast b3
    rw [← Rat.not_lt, Rat.div_lt_iff (by decide)]
    have e : ((g.2.1 : Nat) : Rat) / 100 * 100 = ((g.2.1 : Nat) : Rat) := by grind
    rw [e, Rat.not_lt]
    exact this, fun k _ _ => by
    rw [decide_eq_true_eq]
    exact ⟨low01, low01, bd01.mono (by decide), bd01.mono (by decide), Rat.le_refl⟩⟩
  intro x hx
  have := List.all_eq_true.mp h x hx
  rwa [decide_eq_true_eq] at this
theorem between_ok {L : Store} {gs : Gr} {one two : Mix} (hg : GrT gs) (h1 : MixT one) (h2 : MixT two) : g_between [gradeN gs, mixP one, mixP two] L = some (.ok (btwV (btwO gs one two)) L) := by
  refine Ok.eq ?_
  unfold g_between
  rw [ok_def]
  unfold b_between
  have l1 := h1.l
  have l2 := h2.l
  have l3 := hg.2.2
  have s1 := shares_ok (L := L) h1.a h1.o (by decide) (by omega) (by omega) rfl h1.w.2.2.1
  have s2 := shares_ok (L := L) h2.a h2.o (by decide) (by omega) (by omega) rfl h2.w.2.2.1
  have k1 : nList L (.v (dkP frP (shM1 one (sumF (0, 1) one)))) = some (.lst ((keysM one).map PV.str)) := by
    rw [dkP_list]
    simp [shM1, keysM]
  have k2 : nList L (.v (dkP frP (shM1 two (sumF (0, 1) two)))) = some (.lst ((keysM two).map PV.str)) := by
    rw [dkP_list]
    simp [shM1, keysM]
  have hb := bounds_okL (L := L) (ks := keysM one ++ keysM two) hg.1 (by simp [keysM]; omega)
  have hi := dkP_items (f := bdP) (itsOf gs one two)
  have hlen : ((keysM one).map PV.str).length + ((keysM two).map PV.str).length ≤ sizeLine := Nat.le_trans (by simp [keysM]; omega : _ ≤ 1000) (by decide)
  rw [List.map_append] at hb
  generalize hx1 : (keysM one).map PV.str = x1 at *
  generalize hx2 : (keysM two).map PV.str = x2 at *
  obtain ⟨z7, z8, z9, z10, z11, z12, z13, z14, hf⟩ := btw_loop (L := L) (a0 := .val (gradeN gs)) (a1 := .val (mixP one)) (a2 := .val (mixP two)) h1.t h2.t (itsOf gs one two) (0, 1) (1, 1) .no .no .no .no .no .no .no .no (its_ok hg one two) lowS01 ⟨by decide, by decide⟩ ⟨by decide, by decide⟩ ⟨by decide, by decide⟩
  have hm := btwL_ok h1.f h2.f (itsOf gs one two) (0, 1) (1, 1) (its_ok hg one two) lowS01 ⟨by decide, by decide⟩ ⟨by decide, by decide⟩ ⟨by decide, by decide⟩
  have hi : hItems (dkP bdP (itsOf gs one two)) = some ((itsOf gs one two).map itP) := hi
  have hb : g_bounds [gradeN gs, .lst (x1 ++ x2)] L = some (.ok (dkP bdP (itsOf gs one two)) L) := hb
  have e01 : PV.tup [.int 0, .int 1] = frS (0, 1) := rfl
  have e11 : PV.tup [.int 1, .int 1] = frS (1, 1) := rfl
  rw [e01] at hf
  generalize dkP frP (shM1 one (sumF (0, 1) one)) = d1 at *
  generalize dkP frP (shM1 two (sumF (0, 1) two)) = d2 at *
  unfold btwO btwR
  simp [s1, s2]
  rw [e01, e11, Ok_seq]
  simp [k1, k2, hlen, hb, hi, hf]
  cases e : btwL (shF one) (shF two) (itsOf gs one two) (0, 1) (1, 1) with
  | none => simp [btwV]
  | some lg =>
    obtain ⟨l, g⟩ := lg
    rw [e] at hm
    obtain ⟨i1, i2, i3, i4, _⟩ := hm
    have hl := is_less_okS (L := L) i4 i3 i2 i1 (by decide) (by decide) (by decide)
    have z2 : 2 ≤ sizeLine := by decide
    by_cases c : valS g < valS l
    · simp [hl, c, btwV]
    · simp [hl, c, btwV, z2]
end G

set_option Elab.async false
set_option linter.all false
set_option maxRecDepth 100000
set_option maxHeartbeats 1000000
namespace G
open PySem L2 Fx
theorem inB_iff {s l h : Fr} (hs : 0 < s.2) (hl : 0 < l.2) (hh : 0 < h.2) : inB s l h = true ↔ val l ≤ val s ∧ val s ≤ val h := by
  rw [inB_val hs hl hh]
  simp only [Bool.not_eq_true', Bool.or_eq_false_iff, decide_eq_false_iff_not, Rat.not_lt]
theorem letsL_iff {b : Nat} {gs : Gr} {ms : Mix} {ks : List Str} (hg : GrT gs) (h : AOk b ms) (o : ordM ms) (p : PosM ms) (n : ms ≠ []) (hk : ∀ k ∈ keysM ms, k ∈ ks) :
    letsL gs ms = true ↔ ∀ x ∈ bndL2 gs ks, val x.2.1 ≤ val (shr ms (sumF (0, 1) ms) x.1) ∧ val (shr ms (sumF (0, 1) ms) x.1) ≤ val x.2.2 := by
  obtain ⟨w1, w2, w3⟩ := whole_ok h
  have w0 : 0 < val (sumF (0, 1) ms) := by rw [w2]; exact sumR_pos p n
  unfold letsL
  generalize sumF (0, 1) ms = w at *
  have w0' : 0 < w.1 := by
    have := (val_lt low01 w1).mp (by rw [val01]; exact w0)
    simpa using this
  have sl : ∀ q, Low (shr ms w q) := fun q => by
    unfold shr
    cases e : findA ms q with
    | none => exact low01
    | some a => exact red_low (Nat.mul_pos (findA_A h _ _ e).1.1 w0')
  have A : ∀ g ∈ gs, gQ ms w g = true ↔ (val (red g.2.1 100) ≤ val (shr ms w g.1) ∧ val (shr ms w g.1) ≤ val (red g.2.2 100)) := fun g hgm => by
    show inB (100 * (amt ms g.1).1, (amt ms g.1).2) (mulF w (g.2.1, 1)) (mulF w (g.2.2, 1)) = true ↔ _
    have la : Low (amt ms g.1) := by
      unfold amt
      cases q : findA ms g.1 with
      | none => exact low01
      | some a => exact (findA_A h _ _ q).1
    rw [← in_same la w1 w0]
    have e1 : shr ms w g.1 = divF (amt ms g.1) w := by
      unfold shr amt
      cases findA ms g.1 with
      | none =>
        show (0, 1) = divF (0, 1) w
        unfold divF
        dsimp only
        rw [Nat.zero_mul, red_zero (by simpa using w0')]
      | some a => rfl
    rw [← e1]
    exact inB_iff (sl _).1 (red_low (by decide)).1 (red_low (by decide)).1
  have B : ∀ k, k ∉ keysM ms → val (shr ms w k) = 0 := fun k hk => by
    unfold shr
    rw [findA_none.mpr hk]
    exact val01
  have C : ∀ k ∈ keysM ms, 0 < val (shr ms w k) := fun k hk => by
    obtain ⟨r, hr, rfl⟩ := List.mem_map.mp hk
    unfold shr
    rw [(findA_some (ordM_nodup o)).mpr (show (r.1, r.2) ∈ ms from hr)]
    show 0 < val (divF r.2 w)
    rw [val_div (h r hr).1 w1 w0', Rat.lt_div_iff w0, Rat.zero_mul]
    exact p r hr
  have hall : (∀ x ∈ bndL2 gs ks, val x.2.1 ≤ val (shr ms w x.1) ∧ val (shr ms w x.1) ≤ val x.2.2) ↔ (bndL2 gs ks).all (fun x => decide (val x.2.1 ≤ val (shr ms w x.1)) && decide (val (shr ms w x.1) ≤ val x.2.2)) = true := by
    rw [List.all_eq_true]
    simp only [Bool.and_eq_true, decide_eq_true_eq]
  rw [hall, bndL2_all _ hg.1.1]
  simp only [Bool.and_eq_true, Bool.not_eq_true', decide_eq_false_iff_not, decide_eq_true_eq, List.all_eq_true, n, not_false_eq_true, true_and]
  constructor
  · rintro ⟨h1, h2⟩
    refine ⟨fun g hgm => (A g hgm).mp (h2 g hgm), fun k hkk hc => ?_⟩
    have hn : k ∉ keysM ms := fun hm => by
      obtain ⟨r, hr, rfl⟩ := List.mem_map.mp hm
      exact hc (h1 r hr)
    rw [B k hn]
    show val (0, 1) ≤ 0 ∧ 0 ≤ val (0, 1)
    rw [val01]
    exact ⟨Rat.le_refl, Rat.le_refl⟩
  · rintro ⟨h1, h2⟩
    refine ⟨fun r hr => ?_, fun g hgm => (A g hgm).mpr (h1 g hgm)⟩
    apply Classical.byContradiction
    intro hc
    have hm : r.1 ∈ keysM ms := List.mem_map.mpr ⟨r, hr, rfl⟩
    have := (h2 r.1 (hk _ hm) hc).2
    have this : val (shr ms w r.1) ≤ val (0, 1) := this
    rw [val01] at this
    exact absurd (C _ hm) (Rat.not_lt.mpr this)
end G

set_option Elab.async false
set_option linter.all false
set_option maxRecDepth 100000
set_option maxHeartbeats 1000000
namespace G
open PySem L2 Fx
theorem oneSub_low {s : Fr} (h : Low s) : Low (oneSub s) := red_low h.1
theorem oneSub_bd {k : Nat} {s : Fr} (h : Bd k s) : Bd k (oneSub s) := bd_red (Nat.lt_of_le_of_lt (Nat.sub_le _ _) h.2) h.2
/-! how much of a pulp, none or some -/
def va (o : Option Fr) : Rat := val (o.getD (0, 1))
def sh (o : Option Fr) (s : Fr) : Option Fr := if s = (0, 1) then none else o.map fun a => mulF a s
theorem shM_sh (ms : Mix) (s : Fr) (x : Str) : findA (shM ms s) x = sh (findA ms x) s := shM_find ms s x
theorem va_sh {o : Option Fr} {t : Fr} (h : ∀ a, o = some a → Low a) (lt : Low t) : va (sh o t) = va o * val t := by
  unfold sh va
  by_cases c : t = (0, 1)
  · rw [if_pos c, c, val01, Rat.mul_zero]
    exact val01
  · rw [if_neg c]
    cases o with
    | none =>
      show val (0, 1) = val (0, 1) * _
      rw [val01, Rat.zero_mul]
    | some a => exact val_mul (h a rfl) lt
theorem va_add {o p : Option Fr} (h1 : ∀ a, o = some a → Low a) (h2 : ∀ a, p = some a → Low a) : va (addO o p) = va o + va p := by
  cases p with
  | none =>
    show va o = va o + val (0, 1)
    rw [val01, Rat.add_zero]
  | some b =>
    show val (addF (o.getD (0, 1)) b) = val (o.getD (0, 1)) + val b
    refine val_add ?_ (h2 b rfl)
    cases o with
    | none => exact low01
    | some a => exact h1 a rfl
theorem val_shr {ms : Mix} {w : Fr} (h : ∀ a p, findA ms p = some a → Low a) (lw : Low w) (w0 : 0 < w.1) (p : Str) : val (shr ms w p) = va (findA ms p) / val w := by
  unfold shr va
  cases q : findA ms p with
  | none =>
    show val (0, 1) = val (0, 1) / val w
    rw [val01]
    grind
  | some a => exact val_div (h a p q) lw w0
theorem shM_pos {b : Nat} {ms : Mix} {t : Fr} (h : AOk b ms) (p : PosM ms) (lt : Low t) : PosM (shM ms t) := by
  unfold shM
  split
  · intro r hr
    cases hr
  · rename_i c
    intro r hr
    obtain ⟨q, hq, rfl⟩ := List.mem_map.mp hr
    show 0 < val (mulF q.2 t)
    rw [val_mul (h q hq).1 lt]
    have t0 : 0 < val t := by
      rcases Rat.le_iff_lt_or_eq.mp (val_nn t) with g | g
      · exact g
      · exact absurd ((val_zero lt).mp g.symm) c
    exact Rat.mul_pos (p q hq) t0
end G

set_option Elab.async false
set_option linter.all false
set_option maxRecDepth 100000
set_option maxHeartbeats 1000000
namespace G
open PySem L2 Fx
section
variable {L : Store}
theorem shared_all {g : DS} {i b : Nat} (hb3 : b ≤ 3000) (hg : ∀ {a b : Fr}, Low a → Low b → Bd 3000 a → Bd 3000 b → g [frP a, frP b] L = some (.ok (frP (mulF a b)) L)) {ms : Mix} {s : Fr} (h : AOk b ms) (hl : ms.length ≤ 1000) (h1 : Low s) (h2 : Bd 3000 s) (x y : SV) :
    cLoop (gTp (gCns (gNm 2) (gCns (gNm 3) gNls))) pYes (eTup (aCons (eVar 2) (aCons (eCall 2 g (aCons (eVar 3) (aCons (eVar 1) aNil)) []) aNil))) [.val (mixP ms), .val (frP s), x, y] (ms.map rowP) [] L = some (.ok (.lst ((partM ms s).map rowP)) L) := by
  have z2 : 2 ≤ sizeLine := by decide
  have := comp_srcY (t := gTp (gCns (gNm 2) (gCns (gNm 3) gNls))) (g := eTup (aCons (eVar 2) (aCons (eCall 2 g (aCons (eVar 3) (aCons (eVar 1) aNil)) []) aNil))) (s := [.val (mixP ms), .val (frP s), x, y]) (L := L) (f := rowP) (fun r : Str × Fr => rowP (r.1, mulF r.2 s)) (xs := ms) (fun r hr => ⟨_, rfl, by
    refine Ok.eq ?_
    have := hg (h r hr).1 h1 ((h r hr).2.mono hb3) h2
    simp [this, z2]
    rfl⟩) (Nat.le_trans hl (by decide))
  rw [this]
  unfold partM
  rw [List.map_map]
  rfl
end
end G

set_option Elab.async false
set_option linter.all false
set_option maxRecDepth 100000
set_option maxHeartbeats 1000000
namespace G
open PySem L2 Fx
theorem shareof_ok {L : Store} {ms : Mix} {t : Fr} (h : AOk 20 ms) (hl : ms.length ≤ 100) (lt : Low t) (bt : Bd 3000 t) : g__law_share_of [mixP ms, frP t] L = some (.ok (mixP (shM ms t)) L) := by
  refine Ok.eq ?_
  unfold g__law_share_of
  rw [ok_def]
  unfold b__law_share_of
  have hk := shared_all (L := L) (g := g__law_part) (i := 0) (b := 20) (by decide) (fun ha hb ka kb => part_ok2 ha hb ka kb (by decide) (by decide) (by decide)) (ms := ms) (s := t) h (by omega) lt bt .no .no
  have i0 : hIx true L (.v (frP t)) (.int 0) = some (.int t.1) := rfl
  have it : itemsOf (mixP ms) = some (ms.map rowP) := rfl
  have ht : hTuple L (.v (.lst ((partM ms t).map rowP))) = some (mixP (partM ms t)) := rfl
  rw [Ok_seq]
  unfold shM
  by_cases c : t.1 = 0
  · have e : t = (0, 1) := low_zero lt c
    subst e
    have i0 : hIx true L (.v (frP (0, 1))) (.int 0) = some (.int 0) := rfl
    simp [i0]
    rfl
  · have e : t ≠ (0, 1) := fun q => c (by rw [q])
    rw [if_neg e]
    simp [i0, c, it, hk, ht]
theorem addF01 {a : Fr} (h : Low a) : addF (0, 1) a = a := low_ext (addF_low low01 h) h (by rw [val_add low01 h, val01, Rat.zero_add])
section
variable {L : Store}
theorem first_loop {d : EF} (hd : ∀ s, d s L = some (.ok (frP (0, 1)) L)) {m n : SV} {b : Nat} {two : Mix} (hb3 : b ≤ 3000) (hb0 : 0 < b) : ∀ (one acc : Mix) (x y : SV), AOk b one → ((acc ++ one).map (·.1)).Nodup → acc.length + one.length ≤ 1000 →
    ∃ x' y', fLoop (gTp (gCns (gNm 3) (gCns (gNm 4) gNls))) (sPutO true 2 (eVar 3) (eCall 2 g__law_sum (aCons (eGet true (hOwn 2) (eVar 3) d) (aCons (eVar 4) aNil)) [])) ((one ++ two).map rowP) [m, n, .own (.dk (kvP frP acc)), x, y] L =
      fLoop (gTp (gCns (gNm 3) (gCns (gNm 4) gNls))) (sPutO true 2 (eVar 3) (eCall 2 g__law_sum (aCons (eGet true (hOwn 2) (eVar 3) d) (aCons (eVar 4) aNil)) [])) (two.map rowP) [m, n, .own (.dk (kvP frP (acc ++ one))), x', y'] L
  | [], acc, x, y, _, _, _ => ⟨x, y, by simp⟩
  | r :: one, acc, x, y, h, hn, hl => by
    obtain ⟨r1, r2⟩ := h r (by simp)
    rw [List.length_cons] at hl
    have hr : r.1 ∉ acc.map (·.1) := fun q => by
      rw [List.map_append, List.map_cons] at hn
      exact (List.nodup_append.mp hn).2.2 _ q _ (by simp) rfl
    have e3 : acc ++ [(r.1, r.2)] ++ one = acc ++ r :: one := by simp
    obtain ⟨x', y', e⟩ := first_loop hd (m := m) (n := n) (two := two) hb3 hb0 one (acc ++ [(r.1, r.2)]) (.val (.str r.1)) (.val (frP r.2)) (fun x hx => h x (by simp [hx])) (by rw [e3]; exact hn) (by simp; omega)
    refine ⟨x', y', ?_⟩
    rw [List.cons_append, List.map_cons]
    rw [e3] at e
    rw [← e]
    conv => lhs; unfold fLoop
    have ht : gTp (gCns (gNm 3) (gCns (gNm 4) gNls)) (rowP r) [m, n, .own (.dk (kvP frP acc)), x, y] = some [m, n, .own (.dk (kvP frP acc)), .val (.str r.1), .val (frP r.2)] := rfl
    have hget : dLook' true (.dk (kvP frP acc)) (.str r.1) = some none := by
      show some (look (kvP frP acc) (.inr r.1)) = _
      rw [look_kvP, findA_new hr]
      rfl
    have hs := sum_ok2 (L := L) low01 r1 bd01 r2 (by decide) hb0 (by omega)
    rw [addF01 r1] at hs
    have hset : setC true (.dk (kvP frP acc)) (.str r.1) (frP r.2) = some (.dk (kvP frP (acc ++ [(r.1, r.2)]))) := by
      show (if (kvP frP acc).length < sizeLine then (keyOf (.str r.1)).map fun k => Cell.dk (Fx.put (kvP frP acc) k (frP r.2)) else none) = _
      have hz : (kvP frP acc).length < sizeLine := Nat.lt_of_le_of_lt (by unfold kvP; rw [List.length_map]; omega : _ ≤ 1000) (by decide)
      rw [if_pos hz]
      show some (Cell.dk (Fx.put (kvP frP acc) (.inr r.1) (frP r.2))) = _
      rw [kvP_put, putA_new hr]
    have hb : sPutO true 2 (eVar 3) (eCall 2 g__law_sum (aCons (eGet true (hOwn 2) (eVar 3) d) (aCons (eVar 4) aNil)) []) [m, n, .own (.dk (kvP frP acc)), .val (.str r.1), .val (frP r.2)] L = some (.ok (.nx [m, n, .own (.dk (kvP frP (acc ++ [(r.1, r.2)]))), .val (.str r.1), .val (frP r.2)]) L) := by
      refine Ok.eq ?_
      have i1 : isDv (some (Vw.dk (kvP frP acc))) = true := rfl
      simp [i1, hd, hget, hs, hset]
    rw [ht]
    dsimp only
    rw [hb]
end
theorem together_ok {b : Nat} {one other : Mix} (h1 : AOk b one) (h2 : AOk b other) (hi : 1 ≤ b) (hi3 : b ≤ 3000) (hb : b + (b + 1) * other.length ≤ 3000) (n1 : ordM one) (n2 : ordM other) (l1 : one.length + other.length ≤ 60) :
    ∃ ms : Mix, (∀ L, g__law_together [mixP one, mixP other] L = some (.ok (mixP ms) L)) ∧ ordM ms ∧ AOk (b + b + 1) ms ∧ (∀ x, findA ms x = addO (findA one x) (findA other x)) ∧ ms.length ≤ one.length + other.length ∧ ∀ x ∈ ms.map (·.1), x ∈ one.map (·.1) ∨ x ∈ other.map (·.1) := by
  obtain ⟨f2, f3, f4⟩ := foldJ_nodup other one (ordM_nodup n1)
  have sd : SD frP (fun k a => (k, a) ∈ other.foldl stepJ one) 63 (.dk (kvP frP (other.foldl stepJ one))) := ⟨_, rfl, f2, by omega, fun r hr => hr⟩
  obtain ⟨ms, q1, q2, q3, q4, q5⟩ := sd.sorted (kt := true) (L := []) (by decide)
  have zz : ms.length ≤ sizeLine := Nat.le_trans (by omega : _ ≤ 1000) (by decide)
  have z2 : 2 ≤ sizeLine := by decide
  have pk : (ms.map (·.1)).Perm ((other.foldl stepJ one).map (·.1)) := by
    have hs : nSorted [] (.o (.dk (kvP frP (other.foldl stepJ one)))) = some (.lst ((sortS ((other.foldl stepJ one).map (·.1))).map PV.str)) := by
      unfold nSorted
      rw [view_odk]
      dsimp only
      rw [strKeys_kvP]
      dsimp only
      rw [if_pos (by rw [List.length_map]; omega)]
    rw [hs] at q4
    have q4 : (sortS ((other.foldl stepJ one).map (·.1))).map PV.str = ms.map fun r => PV.str r.1 := by
      injection q4 with q4
      injection q4
    have e2 : sortS ((other.foldl stepJ one).map (·.1)) = ms.map (·.1) := by
      have : (sortS ((other.foldl stepJ one).map (·.1))).map PV.str = (ms.map (·.1)).map PV.str := by rw [q4, List.map_map]; rfl
      exact (List.map_inj_right (f := PV.str) (fun x y e => by injection e)).mp this
    rw [← e2]
    exact sortS_perm _
  have hfind : ∀ x, findA ms x = addO (findA one x) (findA other x) := fun x => by
    rw [← find_fold other one x (ordM_nodup n2)]
    cases e : findA ms x with
    | some a => exact ((findA_some f2).mpr (q3 _ ((findA_some (ordM_nodup q1)).mp e))).symm
    | none => exact (findA_none.mpr fun q => findA_none.mp e (pk.mem_iff.mpr q)).symm
  refine ⟨ms, fun L => Ok.eq ?_, q1, fun r hr => ?_, hfind, ?_, fun x hx => f4 x (pk.mem_iff.mp hx)⟩
  · have hk : ∀ (a b x y : SV), cLoop (gNm 3) pYes (eTup (aCons (eVar 3) (aCons (eOpH (hIx true) (hOwn 2) (eVar 3)) aNil))) [a, b, .own (.dk (kvP frP (other.foldl stepJ one))), x, y] (ms.map fun r => PV.str r.1) [] L = some (.ok (.lst (ms.map rowP)) L) := fun a b x y =>
      comp_srcY (f := fun r : Str × Fr => PV.str r.1) rowP (fun r hr => ⟨_, rfl, by
        refine Ok.eq ?_
        have q5' : hIx true L (.o (.dk (kvP frP (other.foldl stepJ one)))) (.str r.1) = some (frP r.2) := q5 r hr
        simp [q5', z2]
        rfl⟩) zz
    unfold g__law_together
    rw [ok_def]
    unfold b__law_together
    have q4' : nSorted L (.o (.dk (kvP frP (other.foldl stepJ one)))) = some (.lst (ms.map fun r => .str r.1)) := q4
    have hd : ∀ s, eTup (aCons (eC (.int 0)) (aCons (eC (.int 1)) aNil)) s L = some (.ok (frP (0, 1)) L) := fun s => Ok.eq (by simp [z2]; rfl)
    obtain ⟨x1, y1, e1⟩ := first_loop (L := L) hd (m := .val (mixP one)) (n := .val (mixP other)) (two := other) hi3 hi one [] .no .no h1 (by simpa using ordM_nodup n1) (by simp; omega)
    obtain ⟨x', y', e⟩ := join_loop (L := L) (g := g__law_sum) (d := eTup (aCons (eC (.int 0)) (aCons (eC (.int 1)) aNil))) (fun ha hb ka kb => sum_ok2 ha hb ka kb (by decide) (by decide) (by decide)) hd (m := .val (mixP one)) (n := .val (mixP other)) other one x1 y1 b h1 hi h2 hi3 hi3 hb (by omega)
    rw [List.nil_append, e] at e1
    have n1' : nList L (.v (mixP one)) = some (.lst (one.map rowP)) := rfl
    have n2' : nList L (.v (mixP other)) = some (.lst (other.map rowP)) := rfl
    have nn : ([] : List (Key × PV)) = kvP frP [] := rfl
    have hlen : (one.map rowP).length + (other.map rowP).length ≤ sizeLine := Nat.le_trans (by simp; omega : _ ≤ 1000) (by decide)
    rw [List.map_append] at e1
    generalize hr1 : one.map rowP = r1 at *
    generalize hr2 : other.map rowP = r2 at *
    simp
    rw [Ok_seq]
    simp [n1', n2', hlen]
    rw [nn, e1]
    simp [q4', hk]
    rfl
  · have e := hfind r.1
    rw [(findA_some (ordM_nodup q1)).mpr (show (r.1, r.2) ∈ ms from hr)] at e
    exact addO_ok e.symm (findA_A h1 r.1) (findA_A h2 r.1) hi
  · have := pk.length_eq
    rw [List.length_map, List.length_map] at this
    omega
end G

set_option Elab.async false
set_option linter.all false
set_option maxRecDepth 100000
set_option maxHeartbeats 1000000
namespace G
open PySem L2 Fx
theorem mixed_ok {one two : Mix} (h1 : MixT one) (h2 : MixT two) {s : Fr} (ls : Low s) (bs : Bd 330 s) (hs : s.1 ≤ s.2) : ∃ mx, (∀ L, g__law_mixed [mixP one, mixP two, frP s] L = some (.ok (mixP mx) L)) ∧ AOk 770 mx ∧ KOk mx ∧ ordM mx ∧ PosM mx ∧ mx ≠ [] ∧ mx.length ≤ 8 ∧
    (∀ k ∈ keysM mx, k ∈ keysM one ++ keysM two) ∧ ∀ p, val (shr mx (sumF (0, 1) mx) p) = val (shF two p) + val s * (val (shF one p) - val (shF two p)) := by
  obtain ⟨u1, u2, u3, u4⟩ := h1.w
  obtain ⟨v1, v2, v3, v4⟩ := h2.w
  have ub := h1.b
  have vb := h2.b
  have fu := val_shr (ms := one) (fun a p q => (findA_A h1.a p a q).1) u1 u4
  have fv := val_shr (ms := two) (fun a p q => (findA_A h2.a p a q).1) v1 v4
  have tu : ∀ L, g__law_total [mixP one] L = some (.ok (frP (sumF (0, 1) one)) L) := fun L => total_ok h1.a (by decide) (by have := h1.l; omega)
  have tv : ∀ L, g__law_total [mixP two] L = some (.ok (frP (sumF (0, 1) two)) L) := fun L => total_ok h2.a (by decide) (by have := h2.l; omega)
  unfold shF
  generalize sumF (0, 1) one = u at *
  generalize sumF (0, 1) two = v at *
  have ol := oneSub_low (s := s) ls
  have ob := oneSub_bd bs
  have t1l : Low (divF s u) := red_low (Nat.mul_pos ls.1 u4)
  have t2l : Low (divF (oneSub s) v) := red_low (Nat.mul_pos ol.1 v4)
  have t1b := divF_bd bs ub
  have t2b := divF_bd ob vb
  have a1 : AOk 381 (shM one (divF s u)) := shM_A h1.a t1l t1b
  have a2 : AOk 381 (shM two (divF (oneSub s) v)) := shM_A h2.a t2l t2b
  have o1 := shM_ord (s := divF s u) h1.o
  have o2 := shM_ord (s := divF (oneSub s) v) h2.o
  have l1 := shM_len one (divF s u)
  have l2 := shM_len two (divF (oneSub s) v)
  have l3 := h1.l
  have l4 := h2.l
  have hb : 381 + (381 + 1) * (shM two (divF (oneSub s) v)).length ≤ 3000 := by
    have : (381 + 1) * (shM two (divF (oneSub s) v)).length ≤ (381 + 1) * 4 := Nat.mul_le_mul_left _ (by omega)
    omega
  obtain ⟨mx, m1, m2, m3, m4, m5, m6⟩ := together_ok a1 a2 (by decide) (by decide) hb o1 o2 (by omega)
  have low1 : ∀ {ms : Mix} {p : Str}, AOk 381 ms → ∀ a, findA ms p = some a → Low a := fun h a q => (findA_A h _ a q).1
  have hk1 : ∀ {ms : Mix} {t : Fr} {k : Str}, k ∈ (shM ms t).map (·.1) → k ∈ ms.map (·.1) := fun {ms t k} hk => by
    unfold shM at hk
    split at hk
    · cases hk
    · rwa [part_keys] at hk
  have hva : ∀ p, va (findA mx p) = va (findA one p) * (val s / val u) + va (findA two p) * ((1 - val s) / val v) := fun p => by
    rw [m4 p, va_add (low1 a1) (low1 a2), shM_sh, shM_sh, va_sh (fun a q => (findA_A h1.a p a q).1) t1l, va_sh (fun a q => (findA_A h2.a p a q).1) t2l, val_div ls u1 u4, val_div ol v1 v4, val_one ls hs]
  have hsum : sumR mx = 1 := by
    rw [sumR_join o1 o2 m2 a1 (by decide) a2 m4, sumR_sh h1.a t1l, sumR_sh h2.a t2l, ← u2, ← v2, val_div ls u1 u4, val_div ol v1 v4, val_one ls hs]
    have n1 : val u ≠ 0 := by grind
    have n2 : val v ≠ 0 := by grind
    grind
  obtain ⟨w1, w2, w3⟩ := whole_ok m3
  have hw : sumF (0, 1) mx = (1, 1) := low_ext w1 low11 (by rw [w2, hsum, val11])
  have kk : ∀ k ∈ keysM mx, k ∈ keysM one ++ keysM two := fun k hk => by
    rw [List.mem_append]
    rcases m6 k hk with q | q
    · exact .inl (hk1 q)
    · exact .inr (hk1 q)
  refine ⟨mx, fun L => ?_, fun r hr => ⟨(m3 r hr).1, (m3 r hr).2.mono (by decide)⟩, join_K (shM_K h1.k) (shM_K h2.k) m6, m2, fun r hr => ?_, fun e => ?_, by omega, kk, fun p => ?_⟩
  · refine Ok.eq ?_
    unfold g__law_mixed
    rw [ok_def]
    unfold b__law_mixed
    have z2 : 2 ≤ sizeLine := by decide
    have s1 := shareof_ok (L := L) h1.a (by omega) t1l (t1b.mono (by decide))
    have s2 := shareof_ok (L := L) h2.a (by omega) t2l (t2b.mono (by decide))
    have m1 := m1 L
    have tu := tu L
    have tv := tv L
    have p400 : 2 ^ 400 < 2 ^ 7000 := Nat.pow_lt_pow_right (by decide) (by decide)
    have lt4 : ∀ {a b j k : Nat}, a < 2 ^ j → b < 2 ^ k → j + k ≤ 400 → a * b < 2 ^ 7000 := fun h1 h2 h => Nat.lt_trans (Nat.lt_of_lt_of_le (mul_lt h1 h2) (Nat.pow_le_pow_right (by decide) h)) p400
    have lt3 : ∀ {a j : Nat}, a < 2 ^ j → j ≤ 400 → a < 2 ^ 7000 := fun h1 h => Nat.lt_trans (Nat.lt_of_lt_of_le h1 (Nat.pow_le_pow_right (by decide) h)) p400
    have r1 := frac_red (L := L) (a := s.1 * u.2) (b := s.2 * u.1) (lt4 bs.1 ub.2 (by decide)) (Nat.mul_pos ls.1 u4) (lt4 bs.2 ub.1 (by decide))
    have r2 := frac_red (L := L) (a := (oneSub s).1 * v.2) (b := (oneSub s).2 * v.1) (lt4 ob.1 vb.2 (by decide)) (Nat.mul_pos ol.1 v4) (lt4 ob.2 vb.1 (by decide))
    have r3 := frac_red (L := L) (a := s.2 - s.1) (b := s.2) (lt3 (Nat.lt_of_le_of_lt (Nat.sub_le _ _) bs.2) (by decide)) ls.1 (lt3 bs.2 (by decide))
    have r3 : g__law_frac [.int ((s.2 : Int) - (s.1 : Int)), .int s.2] L = some (.ok (frP (oneSub s)) L) := by
      rw [← Int.ofNat_sub hs]
      exact r3
    have r1 : g__law_frac [.int ((s.1 : Int) * (u.2 : Int)), .int ((s.2 : Int) * (u.1 : Int))] L = some (.ok (frP (divF s u)) L) := by
      rw [← Int.natCast_mul, ← Int.natCast_mul]
      exact r1
    have r2 : g__law_frac [.int (((oneSub s).1 : Int) * (v.2 : Int)), .int (((oneSub s).2 : Int) * (v.1 : Int))] L = some (.ok (frP (divF (oneSub s) v)) L) := by
      rw [← Int.natCast_mul, ← Int.natCast_mul]
      exact r2
    have ix0 : ∀ {L : Store} (a : Fr), hIx true L (.v (frP a)) (.int 0) = some (.int a.1) := fun a => rfl
    have ix1 : ∀ {L : Store} (a : Fr), hIx true L (.v (frP a)) (.int 1) = some (.int a.2) := fun a => rfl
    have g1 := logNN bs.1 ub.2 (by decide) (by decide) (by decide)
    have g2 := logNN bs.2 ub.1 (by decide) (by decide) (by decide)
    have g3 := logNN ob.1 vb.2 (by decide) (by decide) (by decide)
    have g4 := logNN ob.2 vb.1 (by decide) (by decide) (by decide)
    generalize divF s u = t1 at *
    generalize divF (oneSub s) v = t2 at *
    generalize oneSub s = s' at *
    have z1 : 0 ≤ sizeLine := Nat.zero_le _
    have z3 : 0 < sizeLine := by decide
    have z4 : 1 < sizeLine := by decide
    have gt : ∀ (a b : PV) (s : Slots), gTp (gCns (gNm 4) (gCns (gNm 5) gNls)) (.tup [a, b]) s = some ((s.set 4 (.val a)).set 5 (.val b)) := fun _ _ _ => rfl
    have b1 : (sSeq (sSet 6 (eCall 1 g__law_total (aCons (eVar 4) aNil) [])) (sOwnM mAppend 3 (aCons (eCall 2 g__law_share_of (aCons (eVar 4) (aCons (eCall 2 g__law_frac (aCons (eOp hMulI (eOpH (hIx true) (hE (eVar 5)) (eC (.int 0))) (eOpH (hIx true) (hE (eVar 6)) (eC (.int 1)))) (aCons (eOp hMulI (eOpH (hIx true) (hE (eVar 5)) (eC (.int 1))) (eOpH (hIx true) (hE (eVar 6)) (eC (.int 0)))) aNil)) []) aNil)) []) aNil))) [.val (mixP one), .val (mixP two), .val (frP s), .own (.lst []), .val (mixP one), .val (frP s), .no] L = some (.ok (.nx [.val (mixP one), .val (mixP two), .val (frP s), .own (.lst [mixP (shM one t1)]), .val (mixP one), .val (frP s), .val (frP u)]) L) := by
      refine Ok.eq ?_
      simp [tu, ix0, ix1, g1, g2, r1, s1, z3]
    have b2 : (sSeq (sSet 6 (eCall 1 g__law_total (aCons (eVar 4) aNil) [])) (sOwnM mAppend 3 (aCons (eCall 2 g__law_share_of (aCons (eVar 4) (aCons (eCall 2 g__law_frac (aCons (eOp hMulI (eOpH (hIx true) (hE (eVar 5)) (eC (.int 0))) (eOpH (hIx true) (hE (eVar 6)) (eC (.int 1)))) (aCons (eOp hMulI (eOpH (hIx true) (hE (eVar 5)) (eC (.int 1))) (eOpH (hIx true) (hE (eVar 6)) (eC (.int 0)))) aNil)) []) aNil)) []) aNil))) [.val (mixP one), .val (mixP two), .val (frP s), .own (.lst [mixP (shM one t1)]), .val (mixP two), .val (frP s'), .val (frP u)] L = some (.ok (.nx [.val (mixP one), .val (mixP two), .val (frP s), .own (.lst [mixP (shM one t1), mixP (shM two t2)]), .val (mixP two), .val (frP s'), .val (frP v)]) L) := by
      refine Ok.eq ?_
      simp [tv, ix0, ix1, g3, g4, r2, s2, z4]
    have hf : fLoop (gTp (gCns (gNm 4) (gCns (gNm 5) gNls))) (sSeq (sSet 6 (eCall 1 g__law_total (aCons (eVar 4) aNil) [])) (sOwnM mAppend 3 (aCons (eCall 2 g__law_share_of (aCons (eVar 4) (aCons (eCall 2 g__law_frac (aCons (eOp hMulI (eOpH (hIx true) (hE (eVar 5)) (eC (.int 0))) (eOpH (hIx true) (hE (eVar 6)) (eC (.int 1)))) (aCons (eOp hMulI (eOpH (hIx true) (hE (eVar 5)) (eC (.int 1))) (eOpH (hIx true) (hE (eVar 6)) (eC (.int 0)))) aNil)) []) aNil)) []) aNil))) [.tup [mixP one, frP s], .tup [mixP two, frP s']] [.val (mixP one), .val (mixP two), .val (frP s), .own (.lst []), .no, .no, .no] L = some (.ok (.nx [.val (mixP one), .val (mixP two), .val (frP s), .own (.lst [mixP (shM one t1), mixP (shM two t2)]), .val (mixP two), .val (frP s'), .val (frP v)]) L) := by
      unfold fLoop
      rw [gt]
      dsimp only [List.set]
      rw [b1]
      dsimp only
      unfold fLoop
      rw [gt]
      dsimp only [List.set]
      rw [b2]
      rfl
    have i0 : hIx true L (.o (.lst [mixP (shM one t1), mixP (shM two t2)])) (.int 0) = some (mixP (shM one t1)) := rfl
    have i1 : hIx true L (.o (.lst [mixP (shM one t1), mixP (shM two t2)])) (.int 1) = some (mixP (shM two t2)) := rfl
    simp [z1]
    rw [Ok_seq]
    simp [z2, ix0, ix1, r3, hf, i0, i1, m1]
  · have e := m4 r.1
    rw [(findA_some (ordM_nodup m2)).mpr (show (r.1, r.2) ∈ mx from hr)] at e
    have p1 := shM_pos h1.a h1.p t1l
    have p2 := shM_pos h2.a h2.p t2l
    have ap : ∀ {o p : Option Fr} {a : Fr}, addO o p = some a → (∀ a, o = some a → Low a ∧ 0 < val a) → (∀ a, p = some a → Low a ∧ 0 < val a) → 0 < val a := fun {o p a} h g1 g2 => by
      cases p with
      | none => exact (g1 a h).2
      | some b =>
        obtain ⟨b1, b2⟩ := g2 b rfl
        have e : addF (o.getD (0, 1)) b = a := Option.some.inj h
        rw [← e]
        cases o with
        | none =>
          show 0 < val (addF (0, 1) b)
          rw [val_add low01 b1, val01, Rat.zero_add]
          exact b2
        | some c =>
          obtain ⟨c1, c2⟩ := g1 c rfl
          show 0 < val (addF c b)
          rw [val_add c1 b1]
          grind
    exact ap e.symm (fun a q => ⟨low1 a1 a q, p1 _ ((findA_some (ordM_nodup o1)).mp q)⟩) (fun a q => ⟨low1 a2 a q, p2 _ ((findA_some (ordM_nodup o2)).mp q)⟩)
  · rw [e] at hsum
    have h0 : sumR [] = 0 := rfl
    rw [h0] at hsum
    exact absurd hsum (by decide)
  · rw [hw, val_shr (fun a p q => (findA_A m3 p a q).1) low11 (by decide), hva, fu, fv, val11]
    have n1 : val u ≠ 0 := by grind
    have n2 : val v ≠ 0 := by grind
    grind
end G

set_option Elab.async false
set_option linter.all false
set_option maxRecDepth 100000
set_option maxHeartbeats 1000000
namespace G
open PySem L2 Fx
theorem den420 {a : Fr} (h : AmtOk a) : Low a ∧ a.2 ∣ 420 ∧ a.1 ≤ 1000000 * a.2 := by
  obtain ⟨h1, h2, h3, h4, h5⟩ := h
  refine ⟨⟨h3, h5⟩, ?_, ?_⟩
  · generalize a.2 = n at *
    have : n = 1 ∨ n = 2 ∨ n = 3 ∨ n = 4 ∨ n = 5 ∨ n = 6 ∨ n = 7 := by omega
    rcases this with rfl | rfl | rfl | rfl | rfl | rfl | rfl <;> decide
  · have : 1000000 * 1 ≤ 1000000 * a.2 := Nat.mul_le_mul_left _ h3
    omega
theorem addF_420 {a b : Fr} {N M : Nat} (ha : Low a) (hb : Low b) (a1 : a.2 ∣ 420) (b1 : b.2 ∣ 420) (a2 : a.1 ≤ N * a.2) (b2 : b.1 ≤ M * b.2) : (addF a b).2 ∣ 420 ∧ (addF a b).1 ≤ (N + M) * (addF a b).2 := by
  have hq : 0 < a.2 * b.2 := Nat.mul_pos ha.1 hb.1
  have hl := addF_low ha hb
  have hc := red_cross (p := a.1 * b.2 + b.1 * a.2) hq
  obtain ⟨c, hcc⟩ := a1
  obtain ⟨d, hd⟩ := b1
  have e : addF a b = red (a.1 * b.2 + b.1 * a.2) (a.2 * b.2) := rfl
  rw [← e] at hc
  generalize addF a b = x at *
  constructor
  · have h1 : (a.1 * b.2 + b.1 * a.2) * 420 = (a.2 * b.2) * (a.1 * c + b.1 * d) := by
      rw [Nat.add_mul, Nat.mul_add]
      congr 1
      · conv => lhs; rw [hcc]
        ac_rfl
      · conv => lhs; rw [hd]
        ac_rfl
    have h2 : (a.2 * b.2) * (x.1 * 420) = (a.2 * b.2) * ((a.1 * c + b.1 * d) * x.2) := by
      calc (a.2 * b.2) * (x.1 * 420) = (x.1 * (a.2 * b.2)) * 420 := by ac_rfl
        _ = ((a.1 * b.2 + b.1 * a.2) * x.2) * 420 := by rw [hc]
        _ = ((a.1 * b.2 + b.1 * a.2) * 420) * x.2 := by ac_rfl
        _ = ((a.2 * b.2) * (a.1 * c + b.1 * d)) * x.2 := by rw [h1]
        _ = (a.2 * b.2) * ((a.1 * c + b.1 * d) * x.2) := by ac_rfl
    have h3 := Nat.eq_of_mul_eq_mul_left hq h2
    exact Nat.Coprime.dvd_of_dvd_mul_left (Nat.Coprime.symm hl.2) ⟨a.1 * c + b.1 * d, by rw [h3, Nat.mul_comm]⟩
  · have h1 : a.1 * b.2 + b.1 * a.2 ≤ (N + M) * (a.2 * b.2) := by
      have q1 : a.1 * b.2 ≤ N * a.2 * b.2 := Nat.mul_le_mul_right _ a2
      have q2 : b.1 * a.2 ≤ M * b.2 * a.2 := Nat.mul_le_mul_right _ b2
      calc a.1 * b.2 + b.1 * a.2 ≤ N * a.2 * b.2 + M * b.2 * a.2 := Nat.add_le_add q1 q2
        _ = (N + M) * (a.2 * b.2) := by rw [Nat.add_mul]; ac_rfl
    have h2 : (a.2 * b.2) * x.1 ≤ (a.2 * b.2) * ((N + M) * x.2) := by
      calc (a.2 * b.2) * x.1 = x.1 * (a.2 * b.2) := Nat.mul_comm _ _
        _ = (a.1 * b.2 + b.1 * a.2) * x.2 := hc
        _ ≤ ((N + M) * (a.2 * b.2)) * x.2 := Nat.mul_le_mul_right _ h1
        _ = (a.2 * b.2) * ((N + M) * x.2) := by ac_rfl
    exact Nat.le_of_mul_le_mul_left h2 hq
theorem sumF_420 : ∀ (ms : Mix) (acc : Fr) (N : Nat), (∀ r ∈ ms, AmtOk r.2) → Low acc → acc.2 ∣ 420 → acc.1 ≤ N * acc.2 → (sumF acc ms).2 ∣ 420 ∧ (sumF acc ms).1 ≤ (N + 1000000 * ms.length) * (sumF acc ms).2
  | [], acc, N, _, _, h1, h2 => ⟨h1, (by simpa using h2 : acc.1 ≤ (N + 1000000 * 0) * acc.2)⟩
  | r :: ms, acc, N, h, hl, h1, h2 => by
    obtain ⟨r1, r2, r3⟩ := den420 (h r (by simp))
    obtain ⟨a1, a2⟩ := addF_420 hl r1 h1 r2 h2 r3
    have := sumF_420 ms (addF acc r.2) (N + 1000000) (fun x hx => h x (by simp [hx])) (addF_low hl r1) a1 a2
    refine ⟨this.1, Nat.le_trans this.2 (Nat.le_of_eq ?_)⟩
    show (N + 1000000 + 1000000 * ms.length) * (sumF (addF acc r.2) ms).2 = (N + 1000000 * (ms.length + 1)) * (sumF (addF acc r.2) ms).2
    congr 1
    omega
theorem mixT_of {ms : Mix} (h : MixOk ms) (n : ms ≠ []) (l : ms.length ≤ 4) : MixT ms := by
  obtain ⟨q1, q2⟩ := sumF_420 ms (0, 1) 0 (fun r hr => (h.2 r hr).2) low01 (by decide) (by decide)
  have q3 := Nat.le_of_dvd (by decide) q1
  refine ⟨mix_AOk h, mix_KOk h, h.1, mix_pos h, n, l, ⟨?_, Nat.lt_of_le_of_lt q3 (by decide)⟩, mix_KOk h⟩
  have : (0 + 1000000 * ms.length) * (sumF (0, 1) ms).2 ≤ 4000000 * 420 := Nat.mul_le_mul (by omega) q3
  exact Nat.lt_of_le_of_lt (Nat.le_trans q2 this) (by decide)
def MA : Mix := [("a", (1, 1))]
def MB : Mix := [("b", (1, 1))]
theorem mixT_a : MixT MA := by
  refine ⟨?_, ?_, ?_, ?_, by decide +kernel, by decide, ?_, ?_⟩
  · unfold AOk MA Low; decide +kernel
  · unfold KOk MA; decide +kernel
  · unfold ordM MA; decide +kernel
  · unfold PosM MA; decide +kernel
  · unfold MA; decide +kernel
  · unfold MA; decide +kernel
theorem mixT_b : MixT MB := by
  refine ⟨?_, ?_, ?_, ?_, by decide +kernel, by decide, ?_, ?_⟩
  · unfold AOk MB Low; decide +kernel
  · unfold KOk MB; decide +kernel
  · unfold ordM MB; decide +kernel
  · unfold PosM MB; decide +kernel
  · unfold MB; decide +kernel
  · unfold MB; decide +kernel
/-- a script's mixture, or the written one -/
theorem mix_or {k : Nat} {L0 L : Store} {m : Nat} {s : Slots} (hs : s[1]? = some (.val (.loc k))) (h : TL k L0 (m + 17) L) : Ok (eOrV (eCall 2 g__law_mixture (aCons (eVar 1) (aCons (eC (.int 4)) aNil)) []) (eTup (aCons (eTup (aCons (eC (.str "a")) (aCons (eTup (aCons (eC (.int 1)) (aCons (eC (.int 1)) aNil))) aNil))) aNil)) s L) fun v L' => (∃ ms, v = mixP ms ∧ MixT ms) ∧ TL k L0 m L' := by
  have z2 : 2 ≤ sizeLine := by decide
  have z1 : 1 ≤ sizeLine := by decide
  simp [hs]
  refine Ok.imp (mixture_gen (most := 4) (m := m) (by decide) h) ?_
  rintro v L1 ⟨⟨ms, rfl, hm, hl⟩, hT⟩
  by_cases e : ms = []
  · subst e
    have t : truT (mixP []) = some false := rfl
    simp [t, z1, z2]
    exact ⟨⟨MA, rfl, mixT_a⟩, hT⟩
  · have t : truT (mixP ms) = some true := by
      cases ms with
      | nil => exact absurd rfl e
      | cons r ms => rfl
    simp [t]
    exact ⟨⟨ms, rfl, mixT_of hm e hl⟩, hT⟩
theorem two_mix (ms : List Mix) (h : ms.length = 2) : ∃ a b, ms = [a, b] := by
  match ms, h with
  | [a, b], _ => exact ⟨a, b, rfl⟩
theorem draw2 {L0 L : Store} {m : Nat} {a0 a2 a3 a4 a5 a6 a7 a8 a9 a10 a11 a12 a13 a14 : SV} (hT : TL 0 L0 (m + 40) L) :
    Ok (cLoop (gNm 4) pYes (eOrV (eCall 2 g__law_mixture (aCons (eVar 1) (aCons (eC (.int 4)) aNil)) []) (eTup (aCons (eTup (aCons (eC (.str "a")) (aCons (eTup (aCons (eC (.int 1)) (aCons (eC (.int 1)) aNil))) aNil))) aNil))) [a0, .val (.loc 0), a2, a3, a4, a5, a6, a7, a8, a9, a10, a11, a12, a13, a14] (rgItems 0 2) [] L) fun c L' =>
      ∃ one two, c = .lst [mixP one, mixP two] ∧ MixT one ∧ MixT two ∧ TL 0 L0 m L' := by
  refine ok_comp (fun r acc L => ∃ ms : List Mix, acc = ms.map mixP ∧ ms.length + r.length = 2 ∧ (∀ x ∈ ms, MixT x) ∧ TL 0 L0 (m + 20 * r.length) L) ?_ ?_ _ _ _ ?_
  · rintro x r acc L ⟨ms, rfl, hl, hm, hT⟩
    rw [List.length_cons] at hl hT
    refine ⟨_, rfl, ?_⟩
    rw [Fx.pYes_at, Ok_ok, if_pos rfl]
    refine Ok.imp (mix_or (k := 0) (L0 := L0) (m := m + 20 * r.length) rfl (hT.mono (by omega))) ?_
    rintro v L' ⟨⟨y, rfl, hy⟩, hT'⟩
    refine ⟨Nat.lt_of_lt_of_le (by simp; omega : _ < 1000) (by decide), ms ++ [y], by simp, by simp; omega, fun x hx => ?_, hT'⟩
    rcases List.mem_append.mp hx with q | q
    · exact hm x q
    · rw [List.mem_singleton.mp q]; exact hy
  · rintro acc L ⟨ms, rfl, hl, hm, hT⟩
    obtain ⟨a, b, rfl⟩ := two_mix ms (by simpa using hl)
    exact ⟨a, b, rfl, hm a (by simp), hm b (by simp), hT.mono (by omega)⟩
  · exact ⟨[], rfl, by simp [rgItems], by simp, hT.mono (by simp [rgItems])⟩
end G

set_option Elab.async false
set_option linter.all false
set_option maxRecDepth 100000
set_option maxHeartbeats 1000000
namespace G
open PySem L2 Fx
theorem b1 : btwO [("a", (25, 25)), ("b", (0, 100))] MA MB = some ((1, 4), (1, 4)) := by decide +kernel
theorem b2 : btwO [("a", (0, 100)), ("c", (1, 100))] MA MA = none := by decide +kernel
theorem b3 : btwO [("a", (0, 100)), ("b", (0, 100))] MA MB = some ((0, 1), (1, 1)) := by decide +kernel
theorem b4 : btwO [("b", (0, 100))] MA MB = some ((0, 1), (0, 1)) := by decide +kernel
theorem b5 : btwO [("a", (30, 60)), ("b", (20, 50))] MA MB = some ((1, 2), (3, 5)) := by decide +kernel
theorem grT (gs : Gr) (h : (gs.map (·.1)).Nodup) (h2 : ∀ r ∈ gs, r.2.1 ≤ 100 ∧ r.2.2 ≤ 100) (h3 : ∀ r ∈ gs, r.2.1 ≤ r.2.2) (h4 : gs.length ≤ 5) : GrT gs := ⟨⟨h, h2⟩, h3, h4⟩
theorem ends_ok (L : Store) : g__law_ends_right [] L = some (.ok (.bl true) L) := by
  refine Ok.eq ?_
  unfold g__law_ends_right
  rw [ok_def]
  unfold b__law_ends_right
  have z1 : 1 ≤ sizeLine := by decide
  have z2 : 2 ≤ sizeLine := by decide
  have z3 : 3 ≤ sizeLine := by decide
  have z5 : 5 ≤ sizeLine := by decide
  have z4 : 2 < sizeLine := by decide
  have q1 := between_ok (L := L) (gs := [("a", (25, 25)), ("b", (0, 100))]) (grT _ (by decide +kernel) (by decide +kernel) (by decide +kernel) (by decide)) mixT_a mixT_b
  have q2 := between_ok (L := L) (gs := [("a", (0, 100)), ("c", (1, 100))]) (grT _ (by decide +kernel) (by decide +kernel) (by decide +kernel) (by decide)) mixT_a mixT_a
  have q3 := between_ok (L := L) (gs := [("a", (0, 100)), ("b", (0, 100))]) (grT _ (by decide +kernel) (by decide +kernel) (by decide +kernel) (by decide)) mixT_a mixT_b
  have q4 := between_ok (L := L) (gs := [("b", (0, 100))]) (grT _ (by decide +kernel) (by decide +kernel) (by decide +kernel) (by decide)) mixT_a mixT_b
  have q5 := between_ok (L := L) (gs := [("a", (30, 60)), ("b", (20, 50))]) (grT _ (by decide +kernel) (by decide +kernel) (by decide +kernel) (by decide)) mixT_a mixT_b
  rw [b1] at q1
  rw [b2] at q2
  rw [b3] at q3
  rw [b4] at q4
  rw [b5] at q5
  have q1 : g_between [.tup [.tup [.str "a", .int 25, .int 25], .tup [.str "b", .int 0, .int 100]], .tup [.tup [.str "a", .tup [.int 1, .int 1]]], .tup [.tup [.str "b", .tup [.int 1, .int 1]]]] L = some (.ok (.tup [.tup [.int 1, .int 4], .tup [.int 1, .int 4]]) L) := q1
  have q2 : g_between [.tup [.tup [.str "a", .int 0, .int 100], .tup [.str "c", .int 1, .int 100]], .tup [.tup [.str "a", .tup [.int 1, .int 1]]], .tup [.tup [.str "a", .tup [.int 1, .int 1]]]] L = some (.ok .non L) := q2
  have q3 : g_between [.tup [.tup [.str "a", .int 0, .int 100], .tup [.str "b", .int 0, .int 100]], .tup [.tup [.str "a", .tup [.int 1, .int 1]]], .tup [.tup [.str "b", .tup [.int 1, .int 1]]]] L = some (.ok (.tup [.tup [.int 0, .int 1], .tup [.int 1, .int 1]]) L) := q3
  have q4 : g_between [.tup [.tup [.str "b", .int 0, .int 100]], .tup [.tup [.str "a", .tup [.int 1, .int 1]]], .tup [.tup [.str "b", .tup [.int 1, .int 1]]]] L = some (.ok (.tup [.tup [.int 0, .int 1], .tup [.int 0, .int 1]]) L) := q4
  have q5 : g_between [.tup [.tup [.str "a", .int 30, .int 60], .tup [.str "b", .int 20, .int 50]], .tup [.tup [.str "a", .tup [.int 1, .int 1]]], .tup [.tup [.str "b", .tup [.int 1, .int 1]]]] L = some (.ok (.tup [.tup [.int 1, .int 2], .tup [.int 3, .int 5]]) L) := q5
  have gt : ∀ (a b : PV) (s : Slots), gTp (gCns (gNm 0) (gCns (gNm 1) gNls)) (.tup [a, b]) s = some ((s.set 0 (.val a)).set 1 (.val b)) := fun _ _ _ => rfl
  have hl := like_refl (L := L) 6 3 (.lst [.tup [.tup [.int 1, .int 4], .tup [.int 1, .int 4]], .non, .tup [.tup [.int 0, .int 1], .tup [.int 1, .int 1]], .tup [.tup [.int 0, .int 1], .tup [.int 0, .int 1]], .tup [.tup [.int 1, .int 2], .tup [.int 3, .int 5]]]) (by simp [Pl]) (by decide)
  simp [z1, z2, z3, z5, gt, q1, q2, q3, q4, q5, z4, hl]
end G

set_option Elab.async false
set_option linter.all false
set_option maxRecDepth 100000
set_option maxHeartbeats 1000000
namespace G
open PySem L2 Fx
/-! exchanged; a mixture with itself -/
section
variable {gs : Gr} {one two : Mix}
def okB (f1 f2 : Str → Fr) (s : Rat) (x : It) : Bool := decide (val x.2.1 ≤ val (f2 x.1) + s * (val (f1 x.1) - val (f2 x.1))) && decide (val (f2 x.1) + s * (val (f1 x.1) - val (f2 x.1)) ≤ val x.2.2)
theorem okB_iff {f1 f2 : Str → Fr} {s : Rat} {x : It} : okB f1 f2 s x = true ↔ okI f1 f2 s x := by
  unfold okB okI
  rw [Bool.and_eq_true, decide_eq_true_eq, decide_eq_true_eq]
theorem okI_sw {f1 f2 : Str → Fr} {s : Rat} {x : It} : okI f2 f1 s x ↔ okI f1 f2 (1 - s) x := by
  unfold okI
  have e : val (f1 x.1) + s * (val (f2 x.1) - val (f1 x.1)) = val (f2 x.1) + (1 - s) * (val (f1 x.1) - val (f2 x.1)) := by grind
  rw [e]
theorem its_all (hg : GrT gs) {f1 f2 : Str → Fr} {s : Rat} {ks ks' : List Str} (h : ∀ k, k ∈ ks ↔ k ∈ ks') : (∀ x ∈ bndL2 gs ks, okI f1 f2 s x) ↔ ∀ x ∈ bndL2 gs ks', okI f1 f2 s x := by
  have e : ∀ ks, (∀ x ∈ bndL2 gs ks, okI f1 f2 s x) ↔ (bndL2 gs ks).all (okB f1 f2 s) = true := fun ks => by
    rw [List.all_eq_true]
    constructor <;> intro h x hx
    · exact okB_iff.mpr (h x hx)
    · exact okB_iff.mp (h x hx)
  rw [e, e, bndL2_all _ hg.1.1, bndL2_all _ hg.1.1]
  constructor <;> rintro ⟨a, b⟩ <;> refine ⟨a, fun k hk => b k ?_⟩
  · exact (h k).mpr hk
  · exact (h k).mp hk
theorem InS_sw (hg : GrT gs) {f1 f2 : Str → Fr} {s : Rat} : InS f2 f1 (itsOf gs two one) s ↔ InS f1 f2 (itsOf gs one two) (1 - s) := by
  unfold InS itsOf
  have e : (∀ x ∈ bndL2 gs (keysM two ++ keysM one), okI f2 f1 s x) ↔ ∀ x ∈ bndL2 gs (keysM one ++ keysM two), okI f1 f2 (1 - s) x := by
    rw [its_all hg (ks := keysM two ++ keysM one) (ks' := keysM one ++ keysM two) (fun k => by simp only [List.mem_append]; exact Or.comm)]
    constructor <;> intro h x hx
    · exact okI_sw.mp (h x hx)
    · exact okI_sw.mpr (h x hx)
  rw [e]
  constructor <;> rintro ⟨a, b, c⟩ <;> refine ⟨?_, ?_, c⟩ <;> grind
/-- one less a share -/
def turnS (a : Fs) : Fs := redS ((a.2 : Int) - a.1) a.2
theorem turnS_ok {a : Fs} (h : LowS a) : LowS (turnS a) ∧ valS (turnS a) = 1 - valS a := by
  refine ⟨redS_low h.1, ?_⟩
  unfold turnS
  rw [valS_red h.1]
  have := rat_pos h.1
  unfold valS
  push_cast
  grind
theorem turned_ok (hg : GrT gs) (h1 : MixT one) (h2 : MixT two) : btwO gs two one = match btwO gs one two with
    | none => none
    | some (l, g) => some (turnS g, turnS l) := by
  have q1 := btwR_ok h1.f h2.f (its_ok hg one two)
  have q2 := btwR_ok h2.f h1.f (its_ok hg two one)
  unfold btwO
  cases e1 : btwR (shF one) (shF two) (itsOf gs one two) with
  | none =>
    rw [e1] at q1
    cases e2 : btwR (shF two) (shF one) (itsOf gs two one) with
    | none => rfl
    | some lg =>
      obtain ⟨l, g⟩ := lg
      rw [e2] at q2
      obtain ⟨_, _, _, _, a, b⟩ := q2
      have := (b (valS l)).mpr ⟨Rat.le_refl, a⟩
      exact absurd ((InS_sw hg).mp this) (q1 _)
  | some lg =>
    obtain ⟨l, g⟩ := lg
    rw [e1] at q1
    obtain ⟨i1, i2, _, _, i5, i6⟩ := q1
    cases e2 : btwR (shF two) (shF one) (itsOf gs two one) with
    | none =>
      rw [e2] at q2
      have := (i6 (valS l)).mpr ⟨Rat.le_refl, i5⟩
      have e : valS l = 1 - (1 - valS l) := by grind
      rw [e] at this
      exact absurd ((InS_sw hg).mpr this) (q2 _)
    | some lg =>
      obtain ⟨l', g'⟩ := lg
      rw [e2] at q2
      obtain ⟨j1, j2, _, _, j5, j6⟩ := q2
      have key : ∀ s, (valS l' ≤ s ∧ s ≤ valS g') ↔ (valS l ≤ 1 - s ∧ 1 - s ≤ valS g) := fun s => by
        rw [← j6, ← i6]
        exact InS_sw hg
      have k1 := (key (valS l')).mp ⟨Rat.le_refl, j5⟩
      have k2 := (key (valS g')).mp ⟨j5, Rat.le_refl⟩
      have k3 := (key (1 - valS l)).mpr (by constructor <;> grind)
      have k4 := (key (1 - valS g)).mpr (by constructor <;> grind)
      have a1 : l' = turnS g := lowS_ext j1 (turnS_ok i2).1 (by rw [(turnS_ok i2).2]; grind)
      have a2 : g' = turnS l := lowS_ext j2 (turnS_ok i1).1 (by rw [(turnS_ok i1).2]; grind)
      rw [a1, a2]
theorem same_ok (hg : GrT gs) (h1 : MixT one) : btwO gs one one = if letsL gs one = true then some ((0, 1), (1, 1)) else none := by
  have q1 := btwR_ok h1.f h1.f (its_ok hg one one)
  have hl := letsL_iff (ks := keysM one ++ keysM one) hg h1.a h1.o h1.p h1.n (fun k hk => List.mem_append.mpr (.inl hk))
  have hI : ∀ s, InS (shF one) (shF one) (itsOf gs one one) s ↔ (0 ≤ s ∧ s ≤ 1 ∧ letsL gs one = true) := fun s => by
    rw [hl]
    unfold InS itsOf okI shF
    have e : ∀ x : Rat, x + s * (x - x) = x := fun x => by grind
    simp only [e]
  unfold btwO
  by_cases c : letsL gs one = true
  · rw [if_pos c]
    cases e1 : btwR (shF one) (shF one) (itsOf gs one one) with
    | none =>
      rw [e1] at q1
      exact absurd ((hI 0).mpr ⟨Rat.le_refl, by decide, c⟩) (q1 0)
    | some lg =>
      obtain ⟨l, g⟩ := lg
      rw [e1] at q1
      obtain ⟨i1, i2, _, _, i5, i6⟩ := q1
      have k1 := (i6 0).mp ((hI 0).mpr ⟨Rat.le_refl, by decide, c⟩)
      have k2 := (i6 1).mp ((hI 1).mpr ⟨by decide, Rat.le_refl, c⟩)
      have k3 := (hI _).mp ((i6 (valS l)).mpr ⟨Rat.le_refl, i5⟩)
      have k4 := (hI _).mp ((i6 (valS g)).mpr ⟨i5, Rat.le_refl⟩)
      have a1 : l = (0, 1) := lowS_ext i1 lowS01 (by rw [valS01]; grind)
      have a2 : g = (1, 1) := lowS_ext i2 ⟨by decide, by decide⟩ (by rw [valS11]; grind)
      rw [a1, a2]
  · rw [if_neg c]
    cases e1 : btwR (shF one) (shF one) (itsOf gs one one) with
    | none => rfl
    | some lg =>
      obtain ⟨l, g⟩ := lg
      rw [e1] at q1
      obtain ⟨i1, i2, _, _, i5, i6⟩ := q1
      exact absurd ((hI _).mp ((i6 (valS l)).mpr ⟨Rat.le_refl, i5⟩)).2.2 c
end
end G

set_option Elab.async false
set_option linter.all false
set_option maxRecDepth 100000
set_option maxHeartbeats 1000000
namespace G
open PySem L2 Fx
def goodO (r : Option (Fs × Fs)) (s : Fs) : Bool := match r with
  | none => false
  | some (l, g) => !decide (valS s < valS l) && !decide (valS g < valS s)
/-- a share between nought and one -/
theorem judge_ok {gs : Gr} {one two : Mix} (hg : GrT gs) (hk : GKOk gs) (h1 : MixT one) (h2 : MixT two) {s : Fs} (ls : LowS s) (bs : BdS 330 s) (s0 : ¬ valS s < 0) (s1 : ¬ 1 < valS s) (L : Store) :
    ∃ v, g__law_mixed [mixP one, mixP two, frS s] L = some (.ok v L) ∧ g__law_lets [gradeN gs, v] L = some (.ok (.bl (goodO (btwO gs one two) s)) L) := by
  have e0 : 0 ≤ s.1 := by
    apply Classical.byContradiction
    intro hc
    apply s0
    have := (valS_lt (a := s) (b := (0, 1)) ls.1 Nat.one_pos).mpr (by simp; omega)
    rwa [valS01] at this
  obtain ⟨t, rfl⟩ : ∃ t : Fr, s = toS t := ⟨(s.1.toNat, s.2), Prod.ext (Int.toNat_of_nonneg e0).symm rfl⟩
  have lt : Low t := ⟨ls.1, by simpa [toS] using ls.2⟩
  have bt : Bd 330 t := ⟨by simpa [toS] using bs.1, bs.2⟩
  have ht : t.1 ≤ t.2 := by
    apply Classical.byContradiction
    intro hc
    apply s1
    have := (valS_lt (a := (1, 1)) (b := toS t) Nat.one_pos ls.1).mpr (by simp [toS]; omega)
    rwa [valS11] at this
  obtain ⟨mx, m1, m2, m3, m4, m5, m6, m7, m8, m9⟩ := mixed_ok h1 h2 lt bt ht
  have hl := lawlets_ok (L := L) (b := 770) hk hg.1.2 (by have := hg.2.2; omega) m2 m3 m4 (by decide) (by decide) (by omega) (by omega)
  refine ⟨mixP mx, m1 L, ?_⟩
  rw [hl]
  congr 4
  rw [Bool.eq_iff_iff, letsL_iff hg m2 m4 m5 m6 m8]
  have q := btwR_ok h1.f h2.f (its_ok hg one two)
  have hI : (∀ x ∈ bndL2 gs (keysM one ++ keysM two), val x.2.1 ≤ val (shr mx (sumF (0, 1) mx) x.1) ∧ val (shr mx (sumF (0, 1) mx) x.1) ≤ val x.2.2) ↔ InS (shF one) (shF two) (itsOf gs one two) (val t) := by
    unfold InS itsOf okI
    simp only [m9]
    rw [valS_to] at s0 s1
    constructor
    · intro h
      exact ⟨Rat.not_lt.mp s0, Rat.not_lt.mp s1, h⟩
    · rintro ⟨_, _, h⟩
      exact h
  rw [hI]
  unfold goodO btwO
  cases e : btwR (shF one) (shF two) (itsOf gs one two) with
  | none =>
    rw [e] at q
    simp [q (val t)]
  | some lg =>
    obtain ⟨l, g⟩ := lg
    rw [e] at q
    rw [q.2.2.2.2.2 (val t)]
    simp only [Bool.and_eq_true, Bool.not_eq_true', decide_eq_false_iff_not, valS_to, Rat.not_lt]
theorem turnedW {L : Store} {a : Fs} (h : LowS a) (hb : BdS 162 a) : g__law_turned [frS a] L = some (.ok (frS (turnS a)) L) := by
  refine Ok.eq ?_
  unfold g__law_turned
  rw [ok_def]
  unfold b__law_turned
  have n1 : ((a.2 : Int) - a.1).natAbs < 2 ^ 7900 := by
    have h1 := hb.1
    have h2 := hb.2
    refine Nat.lt_trans (?_ : _ < 2 ^ 163) (Nat.pow_lt_pow_right (by decide) (by decide))
    rw [Nat.pow_succ]
    generalize 2 ^ 162 = z at *
    omega
  have n2 : a.2 < 2 ^ 7900 := Nat.lt_trans hb.2 (Nat.pow_lt_pow_right (by decide) (by decide))
  have hf := frac_okS (L := L) n1 h.1 n2
  have i0 : hIx true L (.v (frS a)) (.int 0) = some (.int a.1) := rfl
  have i1 : hIx true L (.v (frS a)) (.int 1) = some (.int a.2) := rfl
  unfold turnS
  simp [i0, i1, hf]
def IsS (v : PV) : Prop := ∃ s : Fs, v = frS s ∧ LowS s ∧ BdS 330 s
theorem pl_frS (a : Fs) : Pl 1 (frS a) := ⟨by simp, fun x hx => by simp at hx; rcases hx with rfl | rfl <;> exact True.intro⟩
theorem btwV_ne (r : Option (Fs × Fs)) : hNe (btwV r) (btwV r) = some (.bl false) := by
  cases r with
  | none => rfl
  | some lg =>
    obtain ⟨l, g⟩ := lg
    exact (pl_eq (d := 2) (v := .tup [frS l, frS g]) ⟨by simp, fun x hx => by simp at hx; rcases hx with rfl | rfl <;> exact pl_frS _⟩ (by decide)).2
theorem bl_ne (c : Bool) : hNe (.bl c) (.bl c) = some (.bl false) := by cases c <;> rfl
theorem draw8 {L0 L : Store} {m : Nat} {a0 a2 a3 a4 a5 a6 a7 a8 a9 a10 a11 a12 a13 a14 : SV} (hT : TL 0 L0 (m + 9) L) :
    Ok (cLoop (gNm 4) pYes (eCall 2 g__law_frac (aCons (eCall 2 g__law_draw (aCons (eVar 1) (aCons (eC (.int 101)) aNil)) []) (aCons (eC (.int 100)) aNil)) []) [a0, .val (.loc 0), a2, a3, a4, a5, a6, a7, a8, a9, a10, a11, a12, a13, a14] (rgItems 0 8) [] L) fun c L' =>
      ∃ xs, c = .lst xs ∧ xs.length = 8 ∧ (∀ x ∈ xs, IsS x) ∧ TL 0 L0 m L' := by
  refine ok_comp (fun r acc L => acc.length + r.length = 8 ∧ (∀ x ∈ acc, IsS x) ∧ TL 0 L0 (m + r.length) L) ?_ ?_ _ _ _ ?_
  · rintro x r acc L ⟨hl, hm, hT⟩
    rw [List.length_cons] at hl hT
    refine ⟨_, rfl, ?_⟩
    simp
    refine Ok.imp (draw_ok (m := m + r.length) (many := 101) (hT.mono (by omega)) (by decide) (by decide)) ?_
    rintro v L' ⟨⟨i, rfl, i0, i1⟩, hT'⟩
    have hf := frac_okS (L := L') (a := i) (b := 100) (Nat.lt_of_le_of_lt (by omega : _ ≤ 2 ^ 100) (Nat.pow_lt_pow_right (by decide) (by decide))) (by decide) (Nat.lt_of_le_of_lt (by decide : _ ≤ 2 ^ 100) (Nat.pow_lt_pow_right (by decide) (by decide)))
    have hf : g__law_frac [.int i, .int 100] L' = some (.ok (frS (redS i 100)) L') := hf
    have t1 : acc.length < sizeLine := Nat.lt_of_lt_of_le (by omega : _ < 1000) (by decide)
    simp [hf, t1]
    refine ⟨by omega, fun x hx => ?_, hT'⟩
    rcases hx with q | rfl
    · exact hm x q
    · exact ⟨_, rfl, redS_low (by decide), redS_bd (by decide) (Nat.lt_of_le_of_lt (by omega : _ ≤ 2 ^ 100) (Nat.pow_lt_pow_right (by decide) (by decide))) (Nat.lt_of_le_of_lt (by decide : _ ≤ 2 ^ 100) (Nat.pow_lt_pow_right (by decide) (by decide)))⟩
  · rintro acc L ⟨hl, hm, hT⟩
    exact ⟨acc, rfl, by simpa using hl, hm, hT.mono (by omega)⟩
  · exact ⟨by simp [rgItems], by simp, hT.mono (by simp [rgItems])⟩
end G

set_option Elab.async false
set_option linter.all false
set_option maxRecDepth 100000
set_option maxHeartbeats 1000000
namespace G
open PySem L2 Fx
def Ends (o : Option (Fs × Fs)) : Prop := ∀ l g, o = some (l, g) → LowS l ∧ LowS g ∧ BdS 162 l ∧ BdS 162 g
theorem share_ok {gs : Gr} {one two : Mix} (hg : GrT gs) (hk : GKOk gs) (h1 : MixT one) (h2 : MixT two) {o : Option (Fs × Fs)} (ho : btwO gs one two = o) (he : Ends o) {y : Fs} (ly : LowS y) (ky : BdS 330 y) {L : Store} {a0 a1 a2 a4 a8 a9 a10 a11 a13 a14 : SV} :
    Ok ((sSeq (sIf (bOr (bB (eCall 2 g__law_below (aCons (eVar 12) (aCons (eTup (aCons (eC (.int 0)) (aCons (eC (.int 1)) aNil))) aNil)) [])) (bB (eCall 2 g__law_below (aCons (eTup (aCons (eC (.int 1)) (aCons (eC (.int 1)) aNil))) (aCons (eVar 12) aNil)) []))) sCt sNx)
    (sSeq (sSet 13 (eAnd (eOp hIsNot (eVar 7) (eC .non)) (eAnd (eNot (eCall 2 g__law_below (aCons (eVar 12) (aCons (eOpH (hIx true) (hE (eVar 7)) (eC (.int 0))) aNil)) [])) (eNot (eCall 2 g__law_below (aCons (eOpH (hIx true) (hE (eVar 7)) (eC (.int 1))) (aCons (eVar 12) aNil)) [])))))
    (sIf (bB (eOp hNe (eCall 2 g__law_lets (aCons (eVar 3) (aCons (eCall 3 g__law_mixed (aCons (eVar 5) (aCons (eVar 6) (aCons (eVar 12) aNil))) []) aNil)) []) (eVar 13))) (sRet (eC (.bl false))) sNx))) [a0, a1, a2, .val (gradeN gs), a4, .val (mixP one), .val (mixP two), .val (btwV o), a8, a9, a10, a11, .val (frS y), a13, a14] L) fun w L' => L' = L ∧ ∃ x13, w = .nx [a0, a1, a2, .val (gradeN gs), a4, .val (mixP one), .val (mixP two), .val (btwV o), a8, a9, a10, a11, .val (frS y), x13, a14] ∨ w = .ct [a0, a1, a2, .val (gradeN gs), a4, .val (mixP one), .val (mixP two), .val (btwV o), a8, a9, a10, a11, .val (frS y), x13, a14] := by
  have e01 : PV.tup [.int 0, .int 1] = frS (0, 1) := rfl
  have e11 : PV.tup [.int 1, .int 1] = frS (1, 1) := rfl
  have l11 : LowS (1, 1) := ⟨by decide, by decide⟩
  have k01 : BdS 2 (0, 1) := ⟨by decide, by decide⟩
  have k11 : BdS 2 (1, 1) := ⟨by decide, by decide⟩
  have z2 : 2 ≤ sizeLine := by decide
  have c1 := below_okS (L := L) ky k01 ly.1 lowS01.1 (by decide) (by decide) (by decide)
  have c2 := below_okS (L := L) k11 ky l11.1 ly.1 (by decide) (by decide) (by decide)
  have j := judge_ok (s := y) hg hk h1 h2 ly ky
  rw [ho] at j
  rw [valS01] at c1
  rw [valS11] at c2
  rw [Ok_seq]
  by_cases s0 : valS y < 0
  · rw [decide_eq_true s0] at c1
    simp [e01, c1, z2]
  rw [decide_eq_false s0] at c1
  by_cases s1 : 1 < valS y
  · rw [decide_eq_true s1] at c2
    simp [e01, e11, c1, c2, z2]
  rw [decide_eq_false s1] at c2
  obtain ⟨v, v1, v2⟩ := j s0 s1 L
  cases o with
  | none =>
    have hn : hIsNot PV.non PV.non = some (.bl false) := rfl
    have v2 : g__law_lets [gradeN gs, v] L = some (.ok (.bl false) L) := v2
    have hb := bl_ne false
    simp [e01, e11, c1, c2, z2, btwV, hn, v1, v2, hb]
  | some lg =>
    obtain ⟨l, g⟩ := lg
    obtain ⟨i1, i2, i3, i4⟩ := he l g rfl
    have hn : hIsNot (.tup [frS l, frS g]) PV.non = some (.bl true) := rfl
    have d1 := below_okS (L := L) ky i3 ly.1 i1.1 (by decide) (by decide) (by decide)
    have d2 := below_okS (L := L) i4 ky i2.1 ly.1 (by decide) (by decide) (by decide)
    have v2 : g__law_lets [gradeN gs, v] L = some (.ok (.bl (!decide (valS y < valS l) && !decide (valS g < valS y))) L) := v2
    have hb := fun c => bl_ne c
    generalize decide (valS y < valS l) = b1 at *
    generalize decide (valS g < valS y) = b2 at *
    have hb1 := bl_ne true
    have hb2 := bl_ne false
    cases b1 <;> cases b2 <;> (simp at v2; simp [e01, e11, c1, c2, z2, btwV, hn, d1, d2, v1, v2, hb1, hb2])
end G

set_option Elab.async false
set_option linter.all false
set_option maxRecDepth 100000
set_option maxHeartbeats 1000000
namespace G
open PySem L2 Fx
abbrev TT (ns : List Int) (m : Nat) (L : Store) : Prop := TL 0 [tc ns 0 0] m L
def J0 (ns : List Int) (r : List PV) (s : Slots) (L : Store) : Prop := TT ns (90 * r.length) L ∧ ∃ x2 x3 x4 x5 x6 x7 x8 x9 x10 x11 x12 x13 x14, s = [.val (.scr ns), .val (.loc 0), x2, x3, x4, x5, x6, x7, x8, x9, x10, x11, x12, x13, x14]
def J1 (L0 : Store) (a0 a1 a2 a3 a4 a5 a6 a7 a8 a9 a10 a11 a14 : SV) (r : List PV) (s : Slots) (L : Store) : Prop := L = L0 ∧ (∀ y ∈ r, IsS y) ∧ ∃ x12 x13, s = [a0, a1, a2, a3, a4, a5, a6, a7, a8, a9, a10, a11, x12, x13, a14]
def J2 (L0 : Store) (a0 a1 a2 a3 a4 a5 a6 a7 a12 a13 a14 : SV) (s : Slots) (L : Store) : Prop := L = L0 ∧ ∃ xs x9 x10 x11, s = [a0, a1, a2, a3, a4, a5, a6, a7, .val (.lst xs), x9, x10, x11, a12, a13, a14] ∧ (∀ y ∈ xs, IsS y)
theorem hlaw (ns : List Int) (hn : ns.length ≤ 63) : ∃ L, g_law [.scr ns] [] = some (.ok (.bl true) L) := by
  have goal : Ok (g_law [.scr ns] []) fun v _ => v = .bl true := by
    unfold g_law
    rw [ok_def]
    unfold b_law
    have z2 : 2 ≤ sizeLine := by decide
    have z3 : 3 ≤ sizeLine := by decide
    have ends := fun L => ends_ok L
    simp [z3]
    rw [Ok_seq]
    simp [ends]
    rw [Ok_seq]
    simp
    refine ok_loop (J0 ns) ?_ ?_ _ _ _ ?_
    · rintro x r s L ⟨hT, x2, x3, x4, x5, x6, x7, x8, x9, x10, x11, x12, x13, x14, rfl⟩
      refine ⟨_, rfl, ?_⟩
      rw [List.length_cons] at hT
      have hT : TT ns (90 * r.length + 90) L := hT.mono (by omega)
      generalize hm : 90 * r.length = m at hT
      rw [Ok_seqSet]
      refine (?_ : Ok (g__law_grade [.loc 0] L) _)
      refine Ok.imp (grade_gen (m := m + 59) hT) ?_
      rintro v L1 ⟨⟨gs, rfl, hgs, hgl⟩, hT⟩
      obtain ⟨g, eg, gk, gkk, gl, gp, go, gle⟩ := grade_nat hgs
      have gT : GrT g := ⟨gk, gle, by omega⟩
      rw [eg]
      simp
      refine Ok.imp (draw2 (m := m + 19) hT) ?_
      rintro c L2 ⟨one, two, rfl, h1, h2, hT⟩
      have gl : ∀ (a b : PV) (s : Slots), gLs (gCns (gNm 5) (gCns (gNm 6) gNls)) (.lst [a, b]) s = some ((s.set 5 (.val a)).set 6 (.val b)) := fun _ _ _ => rfl
      have q12 := fun L => between_ok (L := L) gT h1 h2
      have q21 := fun L => between_ok (L := L) gT h2 h1
      have q11 := fun L => between_ok (L := L) gT h1 h1
      simp [gl, q12, z2, z3]
      refine Ok.imp (draw8 (m := m + 10) hT) ?_
      rintro c L3 ⟨xs, rfl, xl, xS, hT⟩
      have xz : 3 + xs.length ≤ sizeLine := Nat.le_trans (by omega : _ ≤ 1000) (by decide)
      have xz2 : xs.length + 3 ≤ sizeLine := Nat.le_trans (by omega : _ ≤ 1000) (by decide)
      simp [xz, xz2]
      have hadd : ∀ A B : List PV, A.length + B.length ≤ sizeLine → hAdd (.lst A) (.lst B) = some (.lst (A ++ B)) := fun A B h => if_pos h
      have yz : ∀ n, n ≤ 1000 → n ≤ sizeLine := fun n h => Nat.le_trans h (by decide)
      have e01 : PV.tup [.int 0, .int 1] = frS (0, 1) := rfl
      have e11 : PV.tup [.int 1, .int 1] = frS (1, 1) := rfl
      have e12 : PV.tup [.int 1, .int 2] = frS (1, 2) := rfl
      have em : PV.tup [.int (-1), .int 1000000] = frS (-1, 1000000) := rfl
      have ep : PV.tup [.int 1, .int 1000000] = frS (1, 1000000) := rfl
      have l11 : LowS (1, 1) := ⟨by decide, by decide⟩
      have l12 : LowS (1, 2) := ⟨by decide, by decide⟩
      have lm : LowS (-1, 1000000) := ⟨by decide, by decide⟩
      have lp : LowS (1, 1000000) := ⟨by decide, by decide⟩
      have k01 : BdS 2 (0, 1) := ⟨by decide, by decide⟩
      have k11 : BdS 2 (1, 1) := ⟨by decide, by decide⟩
      have k12 : BdS 2 (1, 2) := ⟨by decide, by decide⟩
      have km : BdS 20 (-1, 1000000) := ⟨by decide, by decide⟩
      have kp : BdS 20 (1, 1000000) := ⟨by decide, by decide⟩
      have hq := btwR_ok h1.f h2.f (its_ok gT one two)
      have hbo : btwR (shF one) (shF two) (itsOf g one two) = btwO g one two := rfl
      rw [hbo] at hq
      have tO := turned_ok gT h1 h2
      have sO := same_ok gT h1
      have jO := fun {s : Fs} => judge_ok (s := s) gT gkk h1 h2
      have hnq := btwV_ne (btwO g two one)
      rw [e01, e11, e12]
      refine Ok.seqIf (J2 L3 (.val (.scr ns)) (.val (.loc 0)) (.val x) (.val (gradeN g)) x4 (.val (mixP one)) (.val (mixP two)) (.val (btwV (btwO g one two))) x12 x13 x14) ?_ ?_
      · have base : ∀ y ∈ frS (0, 1) :: frS (1, 1) :: frS (1, 2) :: xs, IsS y := fun y hy => by
          simp only [List.mem_cons] at hy
          rcases hy with rfl | rfl | rfl | hy
          · exact ⟨_, rfl, lowS01, k01.mono (by decide)⟩
          · exact ⟨_, rfl, l11, k11.mono (by decide)⟩
          · exact ⟨_, rfl, l12, k12.mono (by decide)⟩
          · exact xS y hy
        cases e : btwO g one two with
        | none =>
          have hn : hIsNot PV.non PV.non = some (.bl false) := rfl
          simp [btwV, hn]
          exact ⟨rfl, _, _, _, _, rfl, base⟩
        | some lg =>
          obtain ⟨l, u⟩ := lg
          rw [e] at hq
          obtain ⟨i1, i2, i3, i4, i5, i6⟩ := hq
          have hn : hIsNot (.tup [frS l, frS u]) PV.non = some (.bl true) := rfl
          have il := (i6 (valS l)).mpr ⟨Rat.le_refl, i5⟩
          have iu := (i6 (valS u)).mpr ⟨i5, Rat.le_refl⟩
          have c1 := below_okS (L := L3) i4 i3 i2.1 i1.1 (by decide) (by decide) (by decide)
          have c2 := below_okS (L := L3) i3 k01 i1.1 lowS01.1 (by decide) (by decide) (by decide)
          have c3 := below_okS (L := L3) k11 i4 l11.1 i2.1 (by decide) (by decide) (by decide)
          have d1 : decide (valS u < valS l) = false := decide_eq_false (Rat.not_lt.mpr i5)
          have d2 : decide (valS l < valS (0, 1)) = false := decide_eq_false (by rw [valS01]; exact Rat.not_lt.mpr il.1)
          have d3 : decide (valS (1, 1) < valS u) = false := decide_eq_false (by rw [valS11]; exact Rat.not_lt.mpr iu.2.1)
          rw [d1] at c1
          rw [d2] at c2
          rw [d3] at c3
          have p1 := sum_okS (L := L3) i1 i2 i3 i4 (by decide) (by decide) (by decide)
          have a1 := addS_low i1 i2
          have b1 := addS_bd i1 i2 i3 i4
          have p2 := part_okS (L := L3) a1 l12 b1 k12 (by decide) (by decide) (by decide)
          have a2 := mulS_low a1 l12
          have b2 := mulS_bd a1 l12 b1 k12
          have p3 := sum_okS (L := L3) i1 lm i3 km (by decide) (by decide) (by decide)
          have a3 := addS_low i1 lm
          have b3 := addS_bd i1 lm i3 km
          have p4 := sum_okS (L := L3) i2 lp i4 kp (by decide) (by decide) (by decide)
          have a4 := addS_low i2 lp
          have b4 := addS_bd i2 lp i4 kp
          generalize addS l u = w1 at *
          generalize mulS w1 (1, 2) = w2 at *
          generalize addS l (-1, 1000000) = w3 at *
          generalize addS u (1, 1000000) = w4 at *
          have gt : ∀ (a b : PV) (s : Slots), gTp (gCns (gNm 9) (gCns (gNm 10) gNls)) (.tup [a, b]) s = some ((s.set 9 (.val a)).set 10 (.val b)) := fun _ _ _ => rfl
          have y1 : xs.length + 1 + 1 + 1 + 3 ≤ sizeLine := Nat.le_trans (by omega : _ ≤ 1000) (by decide)
          have y2 : xs.length + 1 + 1 + 1 + 3 + 2 ≤ sizeLine := Nat.le_trans (by omega : _ ≤ 1000) (by decide)
          simp [btwV, hn, gt]
          rw [Ok_seq]
          simp [e01, e11, c1, c2, c3, z2, z3, p1, e12, p2]
          rw [em, ep]
          simp [p3, p4]
          refine ⟨_, ⟨yz _ (by omega), rfl⟩, _, hadd _ _ (yz _ (by simp; omega)), rfl, _, _, _, _, rfl, ?_⟩
          intro y hy
          simp only [List.mem_append, List.mem_cons, List.not_mem_nil, or_false] at hy
          have up : ∀ {z : Fs} {k : Nat}, LowS z → BdS k z → k ≤ 330 → IsS (frS z) := fun h1 h2 h3 => ⟨_, rfl, h1, h2.mono h3⟩
          rcases hy with (rfl | rfl | rfl | hy | rfl | rfl | rfl) | rfl | rfl
          · exact up lowS01 k01 (by decide)
          · exact up l11 k11 (by decide)
          · exact up l12 k12 (by decide)
          · exact xS y hy
          · exact up i1 i3 (by decide)
          · exact up i2 i4 (by decide)
          · exact up a2 b2 (by decide)
          · exact up a3 b3 (by decide)
          · exact up a4 b4 (by decide)
      · rintro s1 L4 ⟨rfl, ys, x9, x10, x11, rfl, hys⟩
        have he : Ends (btwO g one two) := fun l u e => by
          rw [e] at hq
          exact ⟨hq.1, hq.2.1, hq.2.2.1, hq.2.2.2.1⟩
        have iy : itemsOf (.lst ys) = some ys := rfl
        rw [Ok_seq]
        simp [iy]
        refine ok_loop (J1 L4 (.val (.scr ns)) (.val (.loc 0)) (.val x) (.val (gradeN g)) x4 (.val (mixP one)) (.val (mixP two)) (.val (btwV (btwO g one two))) (.val (.lst ys)) x9 x10 x11 x14) ?_ ?_ _ _ _ ?_
        · rintro y r' s L' ⟨rfl, hr, x12, x13, rfl⟩
          refine ⟨_, rfl, ?_⟩
          obtain ⟨y, rfl, y1, y2⟩ := hr y (by simp)
          refine Ok.imp (share_ok gT gkk h1 h2 rfl he y1 y2) ?_
          rintro w L5 ⟨rfl, x13, rfl | rfl⟩
          · exact ⟨rfl, fun z hz => hr z (by simp [hz]), _, _, rfl⟩
          · exact ⟨rfl, fun z hz => hr z (by simp [hz]), _, _, rfl⟩
        · rintro s L' ⟨rfl, _, x12, x13, rfl⟩
          have hll := lawlets_ok (L := L') (b := 20) gkk gk.2 (by omega) h1.a h1.k h1.o (by decide) (by decide) (by have := h1.l; omega) (by have := h1.l; omega)
          have q21 := q21 L'
          have q11 := q11 L'
          have hs1 : hNe (btwV (btwO g one one)) (btwV (btwO g one one)) = some (.bl false) := btwV_ne _
          rw [sO] at q11 hs1
          have fin : ∀ y14, J0 ns r [.val (.scr ns), .val (.loc 0), .val x, .val (gradeN g), x4, .val (mixP one), .val (mixP two), .val (btwV (btwO g one two)), .val (.lst ys), x9, x10, x11, x12, x13, y14] L' := fun y14 => ⟨hT.mono (by omega), _, _, _, _, _, _, _, _, _, _, _, _, _, rfl⟩
          cases e : btwO g one two with
          | none =>
            rw [e] at tO fin
            rw [tO] at q21 hnq
            have hn : hIs PV.non PV.non = some (.bl true) := rfl
            have hnq : hNe .non .non = some (.bl false) := hnq
            cases hc : letsL g one with
            | true =>
              rw [hc] at hll q11 hs1
              have q11 : g_between [gradeN g, mixP one, mixP one] L' = some (.ok (.tup [frS (0, 1), frS (1, 1)]) L') := q11
              have hs1 : hNe (.tup [frS (0, 1), frS (1, 1)]) (.tup [frS (0, 1), frS (1, 1)]) = some (.bl false) := hs1
              simp [q21, btwV]
              rw [Ok_seq]
              simp [hn, hnq, q11, hll, z2, e01, e11, hs1]
              exact fin _
            | false =>
              rw [hc] at hll q11
              have q11 : g_between [gradeN g, mixP one, mixP one] L' = some (.ok .non L') := q11
              simp [q21, btwV]
              rw [Ok_seq]
              simp [hn, hnq, q11, hll, z2, e01, e11]
              exact fin _
          | some lg =>
            obtain ⟨l, u⟩ := lg
            rw [e] at tO fin hq
            rw [tO] at q21 hnq
            have hn : hIs (.tup [frS l, frS u]) PV.non = some (.bl false) := rfl
            have hnn : hNe .non .non = some (.bl false) := rfl
            have hnq : hNe (.tup [frS (turnS u), frS (turnS l)]) (.tup [frS (turnS u), frS (turnS l)]) = some (.bl false) := hnq
            have w1 := turnedW (L := L') hq.1 hq.2.2.1
            have w2 := turnedW (L := L') hq.2.1 hq.2.2.2.1
            cases hc : letsL g one with
            | true =>
              rw [hc] at hll q11 hs1
              have q11 : g_between [gradeN g, mixP one, mixP one] L' = some (.ok (.tup [frS (0, 1), frS (1, 1)]) L') := q11
              have hs1 : hNe (.tup [frS (0, 1), frS (1, 1)]) (.tup [frS (0, 1), frS (1, 1)]) = some (.bl false) := hs1
              simp [q21, btwV]
              rw [Ok_seq]
              simp [hn, hnq, w1, w2, q11, hll, z2, e01, e11, hs1]
              exact fin _
            | false =>
              rw [hc] at hll q11
              have q11 : g_between [gradeN g, mixP one, mixP one] L' = some (.ok .non L') := q11
              simp [q21, btwV]
              rw [Ok_seq]
              simp [hn, hnq, w1, w2, q11, hll, z2, e01, e11, hnn]
              exact fin _
        · exact ⟨rfl, hys, _, _, rfl⟩
    · rintro s L ⟨hT, x2, x3, x4, x5, x6, x7, x8, x9, x10, x11, x12, x13, x14, rfl⟩
      simp
    · refine ⟨⟨ns, 0, 0, by decide, ?_, by simp, rfl⟩, _, _, _, _, _, _, _, _, _, _, _, _, _, rfl⟩
      simp [rgItems]
  obtain ⟨v, L, e, rfl⟩ := goal
  exact ⟨L, e⟩
end G

set_option Elab.async false
set_option linter.all false
set_option maxRecDepth 100000
set_option maxHeartbeats 4000000
namespace G
open PySem L2 Fx
/-! ### the head -/
theorem all_mk {K : PySem.W.Frag} {h : Heap} {mg : Str → Option Value} {fa : Addr} (X : K.In h) (G : h.Ns mainGlobals mg) (hfa : mg "law" = some (.ref fa))
    {f0 : Addr} {od0 an0 : Option Addr} {sl0 : Array (Option Value)} {oc0 kV0 dc0 pm0 cd0 ct0 : Value}
    (a0 : PySem.W.nsIn K mainGlobals "divisor" = some (some (.ref f0))) (l0 : K.lookup f0 = some ⟨oc0, od0, .func (PySem.W.fnOf "divisor" "divisor" (defArgs s_divisor) (defBody s_divisor) (defScope s_divisor) .none kV0 dc0 pm0 an0 cd0 ct0), sl0⟩) (c0 : PySem.W.codeIn K cd0 "divisor" = true) (k0 : PySem.W.keepIn K (.ref f0) = true)
    {f1 : Addr} {od1 an1 : Option Addr} {sl1 : Array (Option Value)} {oc1 kV1 dc1 pm1 cd1 ct1 : Value}
    (a1 : PySem.W.nsIn K mainGlobals "fraction" = some (some (.ref f1))) (l1 : K.lookup f1 = some ⟨oc1, od1, .func (PySem.W.fnOf "fraction" "fraction" (defArgs s_fraction) (defBody s_fraction) (defScope s_fraction) .none kV1 dc1 pm1 an1 cd1 ct1), sl1⟩) (c1 : PySem.W.codeIn K cd1 "fraction" = true) (k1 : PySem.W.keepIn K (.ref f1) = true)
    {f2 : Addr} {od2 an2 : Option Addr} {sl2 : Array (Option Value)} {oc2 kV2 dc2 pm2 cd2 ct2 : Value}
    (a2 : PySem.W.nsIn K mainGlobals "plus" = some (some (.ref f2))) (l2 : K.lookup f2 = some ⟨oc2, od2, .func (PySem.W.fnOf "plus" "plus" (defArgs s_plus) (defBody s_plus) (defScope s_plus) .none kV2 dc2 pm2 an2 cd2 ct2), sl2⟩) (c2 : PySem.W.codeIn K cd2 "plus" = true) (k2 : PySem.W.keepIn K (.ref f2) = true)
    {f3 : Addr} {od3 an3 : Option Addr} {sl3 : Array (Option Value)} {oc3 kV3 dc3 pm3 cd3 ct3 : Value}
    (a3 : PySem.W.nsIn K mainGlobals "minus" = some (some (.ref f3))) (l3 : K.lookup f3 = some ⟨oc3, od3, .func (PySem.W.fnOf "minus" "minus" (defArgs s_minus) (defBody s_minus) (defScope s_minus) .none kV3 dc3 pm3 an3 cd3 ct3), sl3⟩) (c3 : PySem.W.codeIn K cd3 "minus" = true) (k3 : PySem.W.keepIn K (.ref f3) = true)
    {f4 : Addr} {od4 an4 : Option Addr} {sl4 : Array (Option Value)} {oc4 kV4 dc4 pm4 cd4 ct4 : Value}
    (a4 : PySem.W.nsIn K mainGlobals "by" = some (some (.ref f4))) (l4 : K.lookup f4 = some ⟨oc4, od4, .func (PySem.W.fnOf "by" "by" (defArgs s_by) (defBody s_by) (defScope s_by) .none kV4 dc4 pm4 an4 cd4 ct4), sl4⟩) (c4 : PySem.W.codeIn K cd4 "by" = true) (k4 : PySem.W.keepIn K (.ref f4) = true)
    {f5 : Addr} {od5 an5 : Option Addr} {sl5 : Array (Option Value)} {oc5 kV5 dc5 pm5 cd5 ct5 : Value}
    (a5 : PySem.W.nsIn K mainGlobals "is_less" = some (some (.ref f5))) (l5 : K.lookup f5 = some ⟨oc5, od5, .func (PySem.W.fnOf "is_less" "is_less" (defArgs s_is_less) (defBody s_is_less) (defScope s_is_less) .none kV5 dc5 pm5 an5 cd5 ct5), sl5⟩) (c5 : PySem.W.codeIn K cd5 "is_less" = true) (k5 : PySem.W.keepIn K (.ref f5) = true)
    {f6 : Addr} {od6 an6 : Option Addr} {sl6 : Array (Option Value)} {oc6 kV6 dc6 pm6 cd6 ct6 : Value}
    (a6 : PySem.W.nsIn K mainGlobals "amount_of" = some (some (.ref f6))) (l6 : K.lookup f6 = some ⟨oc6, od6, .func (PySem.W.fnOf "amount_of" "amount_of" (defArgs s_amount_of) (defBody s_amount_of) (defScope s_amount_of) .none kV6 dc6 pm6 an6 cd6 ct6), sl6⟩) (c6 : PySem.W.codeIn K cd6 "amount_of" = true) (k6 : PySem.W.keepIn K (.ref f6) = true)
    {f7 : Addr} {od7 an7 : Option Addr} {sl7 : Array (Option Value)} {oc7 kV7 dc7 pm7 cd7 ct7 : Value}
    (a7 : PySem.W.nsIn K mainGlobals "shares" = some (some (.ref f7))) (l7 : K.lookup f7 = some ⟨oc7, od7, .func (PySem.W.fnOf "shares" "shares" (defArgs s_shares) (defBody s_shares) (defScope s_shares) .none kV7 dc7 pm7 an7 cd7 ct7), sl7⟩) (c7 : PySem.W.codeIn K cd7 "shares" = true) (k7 : PySem.W.keepIn K (.ref f7) = true)
    {f8 : Addr} {od8 an8 : Option Addr} {sl8 : Array (Option Value)} {oc8 kV8 dc8 pm8 cd8 ct8 : Value}
    (a8 : PySem.W.nsIn K mainGlobals "bounds" = some (some (.ref f8))) (l8 : K.lookup f8 = some ⟨oc8, od8, .func (PySem.W.fnOf "bounds" "bounds" (defArgs s_bounds) (defBody s_bounds) (defScope s_bounds) .none kV8 dc8 pm8 an8 cd8 ct8), sl8⟩) (c8 : PySem.W.codeIn K cd8 "bounds" = true) (k8 : PySem.W.keepIn K (.ref f8) = true)
    {f9 : Addr} {od9 an9 : Option Addr} {sl9 : Array (Option Value)} {oc9 kV9 dc9 pm9 cd9 ct9 : Value}
    (a9 : PySem.W.nsIn K mainGlobals "between" = some (some (.ref f9))) (l9 : K.lookup f9 = some ⟨oc9, od9, .func (PySem.W.fnOf "between" "between" (defArgs s_between) (defBody s_between) (defScope s_between) .none kV9 dc9 pm9 an9 cd9 ct9), sl9⟩) (c9 : PySem.W.codeIn K cd9 "between" = true) (k9 : PySem.W.keepIn K (.ref f9) = true)
    {f10 : Addr} {od10 an10 : Option Addr} {sl10 : Array (Option Value)} {oc10 kV10 dc10 pm10 cd10 ct10 : Value}
    (a10 : PySem.W.nsIn K mainGlobals "_law_draw" = some (some (.ref f10))) (l10 : K.lookup f10 = some ⟨oc10, od10, .func (PySem.W.fnOf "_law_draw" "_law_draw" (defArgs s__law_draw) (defBody s__law_draw) (defScope s__law_draw) .none kV10 dc10 pm10 an10 cd10 ct10), sl10⟩) (c10 : PySem.W.codeIn K cd10 "_law_draw" = true) (k10 : PySem.W.keepIn K (.ref f10) = true)
    {f11 : Addr} {od11 an11 : Option Addr} {sl11 : Array (Option Value)} {oc11 kV11 dc11 pm11 cd11 ct11 : Value}
    (a11 : PySem.W.nsIn K mainGlobals "_law_like" = some (some (.ref f11))) (l11 : K.lookup f11 = some ⟨oc11, od11, .func (PySem.W.fnOf "_law_like" "_law_like" (defArgs s__law_like) (defBody s__law_like) (defScope s__law_like) .none kV11 dc11 pm11 an11 cd11 ct11), sl11⟩) (c11 : PySem.W.codeIn K cd11 "_law_like" = true) (k11 : PySem.W.keepIn K (.ref f11) = true)
    {f12 : Addr} {od12 an12 : Option Addr} {sl12 : Array (Option Value)} {oc12 kV12 dc12 pm12 cd12 ct12 : Value}
    (a12 : PySem.W.nsIn K mainGlobals "_law_common" = some (some (.ref f12))) (l12 : K.lookup f12 = some ⟨oc12, od12, .func (PySem.W.fnOf "_law_common" "_law_common" (defArgs s__law_common) (defBody s__law_common) (defScope s__law_common) .none kV12 dc12 pm12 an12 cd12 ct12), sl12⟩) (c12 : PySem.W.codeIn K cd12 "_law_common" = true) (k12 : PySem.W.keepIn K (.ref f12) = true)
    {f13 : Addr} {od13 an13 : Option Addr} {sl13 : Array (Option Value)} {oc13 kV13 dc13 pm13 cd13 ct13 : Value}
    (a13 : PySem.W.nsIn K mainGlobals "_law_frac" = some (some (.ref f13))) (l13 : K.lookup f13 = some ⟨oc13, od13, .func (PySem.W.fnOf "_law_frac" "_law_frac" (defArgs s__law_frac) (defBody s__law_frac) (defScope s__law_frac) .none kV13 dc13 pm13 an13 cd13 ct13), sl13⟩) (c13 : PySem.W.codeIn K cd13 "_law_frac" = true) (k13 : PySem.W.keepIn K (.ref f13) = true)
    {f14 : Addr} {od14 an14 : Option Addr} {sl14 : Array (Option Value)} {oc14 kV14 dc14 pm14 cd14 ct14 : Value}
    (a14 : PySem.W.nsIn K mainGlobals "_law_sum" = some (some (.ref f14))) (l14 : K.lookup f14 = some ⟨oc14, od14, .func (PySem.W.fnOf "_law_sum" "_law_sum" (defArgs s__law_sum) (defBody s__law_sum) (defScope s__law_sum) .none kV14 dc14 pm14 an14 cd14 ct14), sl14⟩) (c14 : PySem.W.codeIn K cd14 "_law_sum" = true) (k14 : PySem.W.keepIn K (.ref f14) = true)
    {f15 : Addr} {od15 an15 : Option Addr} {sl15 : Array (Option Value)} {oc15 kV15 dc15 pm15 cd15 ct15 : Value}
    (a15 : PySem.W.nsIn K mainGlobals "_law_part" = some (some (.ref f15))) (l15 : K.lookup f15 = some ⟨oc15, od15, .func (PySem.W.fnOf "_law_part" "_law_part" (defArgs s__law_part) (defBody s__law_part) (defScope s__law_part) .none kV15 dc15 pm15 an15 cd15 ct15), sl15⟩) (c15 : PySem.W.codeIn K cd15 "_law_part" = true) (k15 : PySem.W.keepIn K (.ref f15) = true)
    {f16 : Addr} {od16 an16 : Option Addr} {sl16 : Array (Option Value)} {oc16 kV16 dc16 pm16 cd16 ct16 : Value}
    (a16 : PySem.W.nsIn K mainGlobals "_law_below" = some (some (.ref f16))) (l16 : K.lookup f16 = some ⟨oc16, od16, .func (PySem.W.fnOf "_law_below" "_law_below" (defArgs s__law_below) (defBody s__law_below) (defScope s__law_below) .none kV16 dc16 pm16 an16 cd16 ct16), sl16⟩) (c16 : PySem.W.codeIn K cd16 "_law_below" = true) (k16 : PySem.W.keepIn K (.ref f16) = true)
    {f17 : Addr} {od17 an17 : Option Addr} {sl17 : Array (Option Value)} {oc17 kV17 dc17 pm17 cd17 ct17 : Value}
    (a17 : PySem.W.nsIn K mainGlobals "_law_total" = some (some (.ref f17))) (l17 : K.lookup f17 = some ⟨oc17, od17, .func (PySem.W.fnOf "_law_total" "_law_total" (defArgs s__law_total) (defBody s__law_total) (defScope s__law_total) .none kV17 dc17 pm17 an17 cd17 ct17), sl17⟩) (c17 : PySem.W.codeIn K cd17 "_law_total" = true) (k17 : PySem.W.keepIn K (.ref f17) = true)
    {f18 : Addr} {od18 an18 : Option Addr} {sl18 : Array (Option Value)} {oc18 kV18 dc18 pm18 cd18 ct18 : Value}
    (a18 : PySem.W.nsIn K mainGlobals "_law_together" = some (some (.ref f18))) (l18 : K.lookup f18 = some ⟨oc18, od18, .func (PySem.W.fnOf "_law_together" "_law_together" (defArgs s__law_together) (defBody s__law_together) (defScope s__law_together) .none kV18 dc18 pm18 an18 cd18 ct18), sl18⟩) (c18 : PySem.W.codeIn K cd18 "_law_together" = true) (k18 : PySem.W.keepIn K (.ref f18) = true)
    {f19 : Addr} {od19 an19 : Option Addr} {sl19 : Array (Option Value)} {oc19 kV19 dc19 pm19 cd19 ct19 : Value}
    (a19 : PySem.W.nsIn K mainGlobals "_law_share_of" = some (some (.ref f19))) (l19 : K.lookup f19 = some ⟨oc19, od19, .func (PySem.W.fnOf "_law_share_of" "_law_share_of" (defArgs s__law_share_of) (defBody s__law_share_of) (defScope s__law_share_of) .none kV19 dc19 pm19 an19 cd19 ct19), sl19⟩) (c19 : PySem.W.codeIn K cd19 "_law_share_of" = true) (k19 : PySem.W.keepIn K (.ref f19) = true)
    {f20 : Addr} {od20 an20 : Option Addr} {sl20 : Array (Option Value)} {oc20 kV20 dc20 pm20 cd20 ct20 : Value}
    (a20 : PySem.W.nsIn K mainGlobals "_law_amount" = some (some (.ref f20))) (l20 : K.lookup f20 = some ⟨oc20, od20, .func (PySem.W.fnOf "_law_amount" "_law_amount" (defArgs s__law_amount) (defBody s__law_amount) (defScope s__law_amount) .none kV20 dc20 pm20 an20 cd20 ct20), sl20⟩) (c20 : PySem.W.codeIn K cd20 "_law_amount" = true) (k20 : PySem.W.keepIn K (.ref f20) = true)
    {f21 : Addr} {od21 an21 : Option Addr} {sl21 : Array (Option Value)} {oc21 kV21 dc21 pm21 cd21 ct21 : Value}
    (a21 : PySem.W.nsIn K mainGlobals "_law_mixture" = some (some (.ref f21))) (l21 : K.lookup f21 = some ⟨oc21, od21, .func (PySem.W.fnOf "_law_mixture" "_law_mixture" (defArgs s__law_mixture) (defBody s__law_mixture) (defScope s__law_mixture) .none kV21 dc21 pm21 an21 cd21 ct21), sl21⟩) (c21 : PySem.W.codeIn K cd21 "_law_mixture" = true) (k21 : PySem.W.keepIn K (.ref f21) = true)
    {f22 : Addr} {od22 an22 : Option Addr} {sl22 : Array (Option Value)} {oc22 kV22 dc22 pm22 cd22 ct22 : Value}
    (a22 : PySem.W.nsIn K mainGlobals "_law_grade" = some (some (.ref f22))) (l22 : K.lookup f22 = some ⟨oc22, od22, .func (PySem.W.fnOf "_law_grade" "_law_grade" (defArgs s__law_grade) (defBody s__law_grade) (defScope s__law_grade) .none kV22 dc22 pm22 an22 cd22 ct22), sl22⟩) (c22 : PySem.W.codeIn K cd22 "_law_grade" = true) (k22 : PySem.W.keepIn K (.ref f22) = true)
    {f23 : Addr} {od23 an23 : Option Addr} {sl23 : Array (Option Value)} {oc23 kV23 dc23 pm23 cd23 ct23 : Value}
    (a23 : PySem.W.nsIn K mainGlobals "_law_lets" = some (some (.ref f23))) (l23 : K.lookup f23 = some ⟨oc23, od23, .func (PySem.W.fnOf "_law_lets" "_law_lets" (defArgs s__law_lets) (defBody s__law_lets) (defScope s__law_lets) .none kV23 dc23 pm23 an23 cd23 ct23), sl23⟩) (c23 : PySem.W.codeIn K cd23 "_law_lets" = true) (k23 : PySem.W.keepIn K (.ref f23) = true)
    {f24 : Addr} {od24 an24 : Option Addr} {sl24 : Array (Option Value)} {oc24 kV24 dc24 pm24 cd24 ct24 : Value}
    (a24 : PySem.W.nsIn K mainGlobals "_law_mixed" = some (some (.ref f24))) (l24 : K.lookup f24 = some ⟨oc24, od24, .func (PySem.W.fnOf "_law_mixed" "_law_mixed" (defArgs s__law_mixed) (defBody s__law_mixed) (defScope s__law_mixed) .none kV24 dc24 pm24 an24 cd24 ct24), sl24⟩) (c24 : PySem.W.codeIn K cd24 "_law_mixed" = true) (k24 : PySem.W.keepIn K (.ref f24) = true)
    {f25 : Addr} {od25 an25 : Option Addr} {sl25 : Array (Option Value)} {oc25 kV25 dc25 pm25 cd25 ct25 : Value}
    (a25 : PySem.W.nsIn K mainGlobals "_law_turned" = some (some (.ref f25))) (l25 : K.lookup f25 = some ⟨oc25, od25, .func (PySem.W.fnOf "_law_turned" "_law_turned" (defArgs s__law_turned) (defBody s__law_turned) (defScope s__law_turned) .none kV25 dc25 pm25 an25 cd25 ct25), sl25⟩) (c25 : PySem.W.codeIn K cd25 "_law_turned" = true) (k25 : PySem.W.keepIn K (.ref f25) = true)
    {f26 : Addr} {od26 an26 : Option Addr} {sl26 : Array (Option Value)} {oc26 kV26 dc26 pm26 cd26 ct26 : Value}
    (a26 : PySem.W.nsIn K mainGlobals "_law_ends_right" = some (some (.ref f26))) (l26 : K.lookup f26 = some ⟨oc26, od26, .func (PySem.W.fnOf "_law_ends_right" "_law_ends_right" (defArgs s__law_ends_right) (defBody s__law_ends_right) (defScope s__law_ends_right) .none kV26 dc26 pm26 an26 cd26 ct26), sl26⟩) (c26 : PySem.W.codeIn K cd26 "_law_ends_right" = true) (k26 : PySem.W.keepIn K (.ref f26) = true)
    {f27 : Addr} {od27 an27 : Option Addr} {sl27 : Array (Option Value)} {oc27 kV27 dc27 pm27 cd27 ct27 : Value}
    (a27 : PySem.W.nsIn K mainGlobals "law" = some (some (.ref f27))) (l27 : K.lookup f27 = some ⟨oc27, od27, .func (PySem.W.fnOf "law" "law" (defArgs s_law) (defBody s_law) (defScope s_law) .none kV27 dc27 pm27 an27 cd27 ct27), sl27⟩) (c27 : PySem.W.codeIn K cd27 "law" = true) (k27 : PySem.W.keepIn K (.ref f27) = true)
    (z_abs : PySem.W.nsIn K mainGlobals "abs" = some none)
    (z_bool : PySem.W.nsIn K mainGlobals "bool" = some none)
    (z_dict : PySem.W.nsIn K mainGlobals "dict" = some none)
    (z_isinstance : PySem.W.nsIn K mainGlobals "isinstance" = some none)
    (z_len : PySem.W.nsIn K mainGlobals "len" = some none)
    (z_list : PySem.W.nsIn K mainGlobals "list" = some none)
    (z_max : PySem.W.nsIn K mainGlobals "max" = some none)
    (z_range : PySem.W.nsIn K mainGlobals "range" = some none)
    (z_sorted : PySem.W.nsIn K mainGlobals "sorted" = some none)
    (z_tuple : PySem.W.nsIn K mainGlobals "tuple" = some none)
    {t_NOUGHT : Addr} {n_NOUGHT : Nat} {sl_NOUGHT : Array (Option Value)} {k0_NOUGHT k1_NOUGHT : Tok} (c_NOUGHT : PySem.W.nsIn K mainGlobals "NOUGHT" = some (some (.ref t_NOUGHT))) (e_NOUGHT : K.lookup t_NOUGHT = some ⟨.type "tuple", none, .seq #[.int 0 k0_NOUGHT, .int 1 k1_NOUGHT] n_NOUGHT, sl_NOUGHT⟩)
    {t_ONE : Addr} {n_ONE : Nat} {sl_ONE : Array (Option Value)} {k0_ONE k1_ONE : Tok} (c_ONE : PySem.W.nsIn K mainGlobals "ONE" = some (some (.ref t_ONE))) (e_ONE : K.lookup t_ONE = some ⟨.type "tuple", none, .seq #[.int 1 k0_ONE, .int 1 k1_ONE] n_ONE, sl_ONE⟩)
    : ∃ T : Tx K mg, T.a_law = fa ∧ ∀ (s : Shared) (v : Value), BindsTo s T.d_law ⟨[v], []⟩ [("script", v)] := by
  have e := hfa.symm.trans (PySem.W.mg_of X G a27)
  cases e
  have F0 := fun_mk (st := s_divisor) l0 c0 k0
  have b0 := F0.binds (ps := ["one", "other"]) fun _ _ _ _ _ _ us hl => match us, hl with | [_, _], _ => rfl
  have F1 := fun_mk (st := s_fraction) l1 c1 k1
  have b1 := F1.binds (ps := ["top", "bottom"]) fun _ _ _ _ _ _ us hl => match us, hl with | [_, _], _ => rfl
  have F2 := fun_mk (st := s_plus) l2 c2 k2
  have b2 := F2.binds (ps := ["one", "other"]) fun _ _ _ _ _ _ us hl => match us, hl with | [_, _], _ => rfl
  have F3 := fun_mk (st := s_minus) l3 c3 k3
  have b3 := F3.binds (ps := ["one", "other"]) fun _ _ _ _ _ _ us hl => match us, hl with | [_, _], _ => rfl
  have F4 := fun_mk (st := s_by) l4 c4 k4
  have b4 := F4.binds (ps := ["one", "other"]) fun _ _ _ _ _ _ us hl => match us, hl with | [_, _], _ => rfl
  have F5 := fun_mk (st := s_is_less) l5 c5 k5
  have b5 := F5.binds (ps := ["one", "other"]) fun _ _ _ _ _ _ us hl => match us, hl with | [_, _], _ => rfl
  have F6 := fun_mk (st := s_amount_of) l6 c6 k6
  have b6 := F6.binds (ps := ["mixture"]) fun _ _ _ _ _ _ us hl => match us, hl with | [_], _ => rfl
  have F7 := fun_mk (st := s_shares) l7 c7 k7
  have b7 := F7.binds (ps := ["mixture"]) fun _ _ _ _ _ _ us hl => match us, hl with | [_], _ => rfl
  have F8 := fun_mk (st := s_bounds) l8 c8 k8
  have b8 := F8.binds (ps := ["grade", "pulps"]) fun _ _ _ _ _ _ us hl => match us, hl with | [_, _], _ => rfl
  have F9 := fun_mk (st := s_between) l9 c9 k9
  have b9 := F9.binds (ps := ["grade", "mixture", "other"]) fun _ _ _ _ _ _ us hl => match us, hl with | [_, _, _], _ => rfl
  have F10 := fun_mk (st := s__law_draw) l10 c10 k10
  have b10 := F10.binds (ps := ["tape", "many"]) fun _ _ _ _ _ _ us hl => match us, hl with | [_, _], _ => rfl
  have F11 := fun_mk (st := s__law_like) l11 c11 k11
  have b11 := F11.binds (ps := ["one", "two"]) fun _ _ _ _ _ _ us hl => match us, hl with | [_, _], _ => rfl
  have F12 := fun_mk (st := s__law_common) l12 c12 k12
  have b12 := F12.binds (ps := ["one", "other"]) fun _ _ _ _ _ _ us hl => match us, hl with | [_, _], _ => rfl
  have F13 := fun_mk (st := s__law_frac) l13 c13 k13
  have b13 := F13.binds (ps := ["top", "bottom"]) fun _ _ _ _ _ _ us hl => match us, hl with | [_, _], _ => rfl
  have F14 := fun_mk (st := s__law_sum) l14 c14 k14
  have b14 := F14.binds (ps := ["one", "other"]) fun _ _ _ _ _ _ us hl => match us, hl with | [_, _], _ => rfl
  have F15 := fun_mk (st := s__law_part) l15 c15 k15
  have b15 := F15.binds (ps := ["amount", "share"]) fun _ _ _ _ _ _ us hl => match us, hl with | [_, _], _ => rfl
  have F16 := fun_mk (st := s__law_below) l16 c16 k16
  have b16 := F16.binds (ps := ["one", "other"]) fun _ _ _ _ _ _ us hl => match us, hl with | [_, _], _ => rfl
  have F17 := fun_mk (st := s__law_total) l17 c17 k17
  have b17 := F17.binds (ps := ["mixture"]) fun _ _ _ _ _ _ us hl => match us, hl with | [_], _ => rfl
  have F18 := fun_mk (st := s__law_together) l18 c18 k18
  have b18 := F18.binds (ps := ["one", "other"]) fun _ _ _ _ _ _ us hl => match us, hl with | [_, _], _ => rfl
  have F19 := fun_mk (st := s__law_share_of) l19 c19 k19
  have b19 := F19.binds (ps := ["mixture", "share"]) fun _ _ _ _ _ _ us hl => match us, hl with | [_, _], _ => rfl
  have F20 := fun_mk (st := s__law_amount) l20 c20 k20
  have b20 := F20.binds (ps := ["tape"]) fun _ _ _ _ _ _ us hl => match us, hl with | [_], _ => rfl
  have F21 := fun_mk (st := s__law_mixture) l21 c21 k21
  have b21 := F21.binds (ps := ["tape", "most"]) fun _ _ _ _ _ _ us hl => match us, hl with | [_, _], _ => rfl
  have F22 := fun_mk (st := s__law_grade) l22 c22 k22
  have b22 := F22.binds (ps := ["tape"]) fun _ _ _ _ _ _ us hl => match us, hl with | [_], _ => rfl
  have F23 := fun_mk (st := s__law_lets) l23 c23 k23
  have b23 := F23.binds (ps := ["grade", "mixture"]) fun _ _ _ _ _ _ us hl => match us, hl with | [_, _], _ => rfl
  have F24 := fun_mk (st := s__law_mixed) l24 c24 k24
  have b24 := F24.binds (ps := ["one", "other", "share"]) fun _ _ _ _ _ _ us hl => match us, hl with | [_, _, _], _ => rfl
  have F25 := fun_mk (st := s__law_turned) l25 c25 k25
  have b25 := F25.binds (ps := ["share"]) fun _ _ _ _ _ _ us hl => match us, hl with | [_], _ => rfl
  have F26 := fun_mk (st := s__law_ends_right) l26 c26 k26
  have b26 := F26.binds (ps := []) fun _ _ _ _ _ _ us hl => match us, hl with | [], _ => rfl
  have F27 := fun_mk (st := s_law) l27 c27 k27
  have b27 := F27.binds (ps := ["script"]) fun _ _ _ _ _ _ us hl => match us, hl with | [_], _ => rfl
  exact ⟨⟨PySem.W.mg_none_of X G z_abs, PySem.W.mg_none_of X G z_bool, PySem.W.mg_none_of X G z_dict, PySem.W.mg_none_of X G z_isinstance, PySem.W.mg_none_of X G z_len, PySem.W.mg_none_of X G z_list, PySem.W.mg_none_of X G z_max, PySem.W.mg_none_of X G z_range, PySem.W.mg_none_of X G z_sorted, PySem.W.mg_none_of X G z_tuple, ⟨_, PySem.W.mg_of X G c_NOUGHT, ⟨_, _, _, e_NOUGHT, rfl, rfl, rfl, (show 2 ≤ sizeLine by decide), (.cons ⟨_, rfl⟩ (.cons ⟨_, rfl⟩ .nil))⟩⟩, ⟨_, PySem.W.mg_of X G c_ONE, ⟨_, _, _, e_ONE, rfl, rfl, rfl, (show 2 ≤ sizeLine by decide), (.cons ⟨_, rfl⟩ (.cons ⟨_, rfl⟩ .nil))⟩⟩, f0, _, F0, PySem.W.mg_of X G a0, k0, b0, f1, _, F1, PySem.W.mg_of X G a1, k1, b1, f2, _, F2, PySem.W.mg_of X G a2, k2, b2, f3, _, F3, PySem.W.mg_of X G a3, k3, b3, f4, _, F4, PySem.W.mg_of X G a4, k4, b4, f5, _, F5, PySem.W.mg_of X G a5, k5, b5, f6, _, F6, PySem.W.mg_of X G a6, k6, b6, f7, _, F7, PySem.W.mg_of X G a7, k7, b7, f8, _, F8, PySem.W.mg_of X G a8, k8, b8, f9, _, F9, PySem.W.mg_of X G a9, k9, b9, f10, _, F10, PySem.W.mg_of X G a10, k10, b10, f11, _, F11, PySem.W.mg_of X G a11, k11, b11, f12, _, F12, PySem.W.mg_of X G a12, k12, b12, f13, _, F13, PySem.W.mg_of X G a13, k13, b13, f14, _, F14, PySem.W.mg_of X G a14, k14, b14, f15, _, F15, PySem.W.mg_of X G a15, k15, b15, f16, _, F16, PySem.W.mg_of X G a16, k16, b16, f17, _, F17, PySem.W.mg_of X G a17, k17, b17, f18, _, F18, PySem.W.mg_of X G a18, k18, b18, f19, _, F19, PySem.W.mg_of X G a19, k19, b19, f20, _, F20, PySem.W.mg_of X G a20, k20, b20, f21, _, F21, PySem.W.mg_of X G a21, k21, b21, f22, _, F22, PySem.W.mg_of X G a22, k22, b22, f23, _, F23, PySem.W.mg_of X G a23, k23, b23, f24, _, F24, PySem.W.mg_of X G a24, k24, b24, f25, _, F25, PySem.W.mg_of X G a25, k25, b25, f26, _, F26, PySem.W.mg_of X G a26, k26, b26, fa, _, F27, PySem.W.mg_of X G a27, k27, b27⟩, rfl, fun s v => .of_eq rfl⟩
theorem walk {l : PySem.W.OpenLaw} {q : Program} {loose : List Str} {XP : (Str → Option Value) → Heap → Prop} {YP : World → Heap → Prop} {d : DefRec} {K : Params → PySem.W.Frag} (hn : l.most = some 63) (hdf : d.params.defaults = [])
    (hY : ∀ (w : World) (h : Heap), YP w h → (K w.params).In h)
    (F : ∀ (w : World) (mg : Str → Option Value) (fa : Addr) (h : Heap), (K w.params).In h → h.Ns mainGlobals mg → mg d.name = some (.ref fa) →
      ∃ T : Tx (K w.params) mg, T.a_law = fa ∧ ∀ (s : Shared) (v : Value), BindsTo s T.d_law ⟨[v], []⟩ [("script", v)]) :
    PySem.W.WalkO q loose XP YP l.row.toRowW d [] (fun f vs => PySem.call f vs) :=
  L2.walk_of (n := 63) (k := 9) (x := "script") (CX := fun _ => CX0) (sp := fun w => spEnd (K w.params) g_law) hn (by decide) hdf ⟨rfl, by decide, by decide⟩ hY
    (fun w mg fa h hK hG hm => by
      obtain ⟨T, e, hb⟩ := F w mg fa h hK hG hm
      subst e
      exact ⟨T.d_law, hb, fun base _ _ => end_lawE (ok_law T)⟩)
    (fun _ H a ns hl ho hS => by
      obtain ⟨L, e⟩ := hlaw ns hl
      exact ⟨a, ns, L, rfl, ho, hS, e, fun _ => rfl⟩) fun _ _ _ _ _ z => z
end G
open PySem PySem.W PyProof.Rows in
set_option maxRecDepth 100000 in
set_option maxHeartbeats 0 in
theorem PySem.Challenge.cw_pulpreel_k05_whole_between_two_mixtures_holds : PySem.Challenge.rw_pulpreel_k05_whole_between_two_mixtures.Holds := by
  w_on; o_law; k_head; (case hw => w_witness2)
  k_fill
  refine G.walk (l := PySem.Challenge.rw_pulpreel_k05_whole_between_two_mixtures) rfl rfl (fun w h Y => PySem.W.kIn_of Y) ?F
  case F =>
    intro w mg fa h KX GN hmg
    refine' G.all_mk KX GN hmg ?a0 ?l0 ?c0 ?k0 ?a1 ?l1 ?c1 ?k1 ?a2 ?l2 ?c2 ?k2 ?a3 ?l3 ?c3 ?k3 ?a4 ?l4 ?c4 ?k4 ?a5 ?l5 ?c5 ?k5 ?a6 ?l6 ?c6 ?k6 ?a7 ?l7 ?c7 ?k7 ?a8 ?l8 ?c8 ?k8 ?a9 ?l9 ?c9 ?k9 ?a10 ?l10 ?c10 ?k10 ?a11 ?l11 ?c11 ?k11 ?a12 ?l12 ?c12 ?k12 ?a13 ?l13 ?c13 ?k13 ?a14 ?l14 ?c14 ?k14 ?a15 ?l15 ?c15 ?k15 ?a16 ?l16 ?c16 ?k16 ?a17 ?l17 ?c17 ?k17 ?a18 ?l18 ?c18 ?k18 ?a19 ?l19 ?c19 ?k19 ?a20 ?l20 ?c20 ?k20 ?a21 ?l21 ?c21 ?k21 ?a22 ?l22 ?c22 ?k22 ?a23 ?l23 ?c23 ?k23 ?a24 ?l24 ?c24 ?k24 ?a25 ?l25 ?c25 ?k25 ?a26 ?l26 ?c26 ?k26 ?a27 ?l27 ?c27 ?k27 ?z_abs ?z_bool ?z_dict ?z_isinstance ?z_len ?z_list ?z_max ?z_range ?z_sorted ?z_tuple ?c_NOUGHT ?e_NOUGHT ?c_ONE ?e_ONE
    (case a0 => k_is)
    (case l0 => k_is)
    (case c0 => k_is)
    (case k0 => k_is)
    (case a1 => k_is)
    (case l1 => k_is)
    (case c1 => k_is)
    (case k1 => k_is)
    (case a2 => k_is)
    (case l2 => k_is)
    (case c2 => k_is)
    (case k2 => k_is)
    (case a3 => k_is)
    (case l3 => k_is)
    (case c3 => k_is)
    (case k3 => k_is)
    (case a4 => k_is)
    (case l4 => k_is)
    (case c4 => k_is)
    (case k4 => k_is)
    (case a5 => k_is)
    (case l5 => k_is)
    (case c5 => k_is)
    (case k5 => k_is)
    (case a6 => k_is)
    (case l6 => k_is)
    (case c6 => k_is)
    (case k6 => k_is)
    (case a7 => k_is)
    (case l7 => k_is)
    (case c7 => k_is)
    (case k7 => k_is)
    (case a8 => k_is)
    (case l8 => k_is)
    (case c8 => k_is)
    (case k8 => k_is)
    (case a9 => k_is)
    (case l9 => k_is)
    (case c9 => k_is)
    (case k9 => k_is)
    (case a10 => k_is)
    (case l10 => k_is)
    (case c10 => k_is)
    (case k10 => k_is)
    (case a11 => k_is)
    (case l11 => k_is)
    (case c11 => k_is)
    (case k11 => k_is)
    (case a12 => k_is)
    (case l12 => k_is)
    (case c12 => k_is)
    (case k12 => k_is)
    (case a13 => k_is)
    (case l13 => k_is)
    (case c13 => k_is)
    (case k13 => k_is)
    (case a14 => k_is)
    (case l14 => k_is)
    (case c14 => k_is)
    (case k14 => k_is)
    (case a15 => k_is)
    (case l15 => k_is)
    (case c15 => k_is)
    (case k15 => k_is)
    (case a16 => k_is)
    (case l16 => k_is)
    (case c16 => k_is)
    (case k16 => k_is)
    (case a17 => k_is)
    (case l17 => k_is)
    (case c17 => k_is)
    (case k17 => k_is)
    (case a18 => k_is)
    (case l18 => k_is)
    (case c18 => k_is)
    (case k18 => k_is)
    (case a19 => k_is)
    (case l19 => k_is)
    (case c19 => k_is)
    (case k19 => k_is)
    (case a20 => k_is)
    (case l20 => k_is)
    (case c20 => k_is)
    (case k20 => k_is)
    (case a21 => k_is)
    (case l21 => k_is)
    (case c21 => k_is)
    (case k21 => k_is)
    (case a22 => k_is)
    (case l22 => k_is)
    (case c22 => k_is)
    (case k22 => k_is)
    (case a23 => k_is)
    (case l23 => k_is)
    (case c23 => k_is)
    (case k23 => k_is)
    (case a24 => k_is)
    (case l24 => k_is)
    (case c24 => k_is)
    (case k24 => k_is)
    (case a25 => k_is)
    (case l25 => k_is)
    (case c25 => k_is)
    (case k25 => k_is)
    (case a26 => k_is)
    (case l26 => k_is)
    (case c26 => k_is)
    (case k26 => k_is)
    (case a27 => k_is)
    (case l27 => k_is)
    (case c27 => k_is)
    (case k27 => k_is)
    (case z_abs => k_is)
    (case z_bool => k_is)
    (case z_dict => k_is)
    (case z_isinstance => k_is)
    (case z_len => k_is)
    (case z_list => k_is)
    (case z_max => k_is)
    (case z_range => k_is)
    (case z_sorted => k_is)
    (case z_tuple => k_is)
    (case c_NOUGHT => k_is)
    (case e_NOUGHT => k_is)
    (case c_ONE => k_is)
    (case e_ONE => k_is)
#print axioms PySem.Challenge.cw_pulpreel_k05_whole_between_two_mixtures_holds

