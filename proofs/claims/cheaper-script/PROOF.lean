import PyProof.Rows.All
import Wide.All
import OpenK.AllK
import Wide.FinOn
import HandS.ForMost
import HandS.Wide
import HandS.IsInst
import HandS.TupAny
import HandS.Style
import HandS.Deep
import HandS.Conv
import HandS.Defaults
import HandS.SortInts
import HandS.SortRule
import HandS.Dict
import KE.SortData
import HandS.TupSets
import KE.KeyNested
import HandS.Zip
import HandS.Strs
import KE.GoesMore
import KE.DataMinMax
import KE.KRevSl
import PyProof.EnumMake
import PySem.Challenge.RW_anyrate_k06_whole_which_script_is_cheape
import KE.KStateDown
import Lean
import HandS.Base
import HandS.Call
import HandS.Ends
import HandS.More
import HandS.Words
import HandS.Head0
import HandS.Head1
import HandS.Head2
import HandS.HeadEnd
import HandS.HeadHook1
import HandS.HeadHook2
import HandS.HeadHook3
import HandS.HeadHook4
set_option Elab.async false
set_option linter.all false
section Sec_D0
set_option maxRecDepth 100000
/-! The data layer 0: data whose tuples are plain objects (no dict of their own), and the rules that make such tuples. -/
namespace DL
open PySem PySem.Spec PyProof.Rows L2
/-- a tuple of these, its object known to have no dict -/
def SqX (K : PySem.W.Frag) (H : Hp) (a : Addr) (xs : List V) : Prop :=
  (∃ o : Obj, o.dict = none ∧ o.cls = .type "tuple" ∧ H a = some (.frz o (.tup xs))) ∨
    ∃ (o : Obj) (its : Array Value) (n : Nat), K.lookup a = some o ∧ o.cls = .type "tuple" ∧ o.dict = none ∧ o.data = .seq its n ∧ its.size ≤ sizeLine ∧ Vals xs its.toList
theorem SqX.t {K : PySem.W.Frag} {H : Hp} {a : Addr} {xs : List V} (h : SqX K H a xs) : SqT K H a xs := by
  rcases h with ⟨o, _, _, h⟩ | ⟨o, its, n, h1, h2, _, h3⟩
  · exact .inl (.inr ⟨o, h⟩)
  · exact .inr ⟨o, its, n, h1, h2, h3⟩
theorem SqX.of {K : PySem.W.Frag} {H : Hp} {a : Addr} {xs : List V} {o : Obj} (e : H a = some (.frz o (.tup xs))) (ho : o.dict = none ∧ o.cls = .type "tuple") : SqX K H a xs := .inl ⟨o, ho.1, ho.2, e⟩
theorem SqX.mono {K : PySem.W.Frag} {H H' : Hp} {a : Addr} {xs : List V} (s : Same H H') (h : SqX K H a xs) : SqX K H' a xs := by
  rcases h with ⟨o, h1, h2, h⟩ | h
  · exact .inl ⟨o, h1, h2, s _ _ h⟩
  · exact .inr h
mutual
inductive Dq (K : PySem.W.Frag) (H : Hp) : V → PyData → Prop
  | non : Dq K H .non .none
  | bl (b : Bool) : Dq K H (.bl b) (.bool b)
  | int (i : Int) : Dq K H (.int i) (.int i)
  | str (x : Str) : Dq K H (.str x) (.str x)
  | lst {a : Addr} {xs : List V} {ds : List PyData} : SqL K H a xs → DqAll K H xs ds → Dq K H (.ref a) (.list ds)
  | tup {a : Addr} {xs : List V} {ds : List PyData} : SqX K H a xs → DqAll K H xs ds → Dq K H (.ref a) (.tuple ds)
inductive DqAll (K : PySem.W.Frag) (H : Hp) : List V → List PyData → Prop
  | nil : DqAll K H [] []
  | cons {v : V} {vs : List V} {d : PyData} {ds : List PyData} : Dq K H v d → DqAll K H vs ds → DqAll K H (v :: vs) (d :: ds)
end
mutual
theorem Dq.dp {K : PySem.W.Frag} {H : Hp} : ∀ (d : PyData) (v : V), Dq K H v d → Dp K H v d
  | .none, _, h => by cases h; exact .non
  | .bool b, _, h => by cases h; exact .bl b
  | .int i, _, h => by cases h; exact .int i
  | .str x, _, h => by cases h; exact .str x
  | .list ds, _, h => by
    cases h with
    | lst hs ha => exact .lst hs (DqAll.dp ds _ ha)
  | .tuple ds, _, h => by
    cases h with
    | tup hs ha => exact .tup hs.t (DqAll.dp ds _ ha)
  | .dict _, _, h => by cases h
theorem DqAll.dp {K : PySem.W.Frag} {H : Hp} : ∀ (ds : List PyData) (vs : List V), DqAll K H vs ds → DpAll K H vs ds
  | [], _, h => by cases h; exact .nil
  | d :: ds, _, h => by
    cases h with
    | cons h1 h2 => exact .cons (Dq.dp d _ h1) (DqAll.dp ds _ h2)
end
theorem Dq.w {K : PySem.W.Frag} {H : Hp} {v : V} {d : PyData} (h : Dq K H v d) : Dp K H v d := Dq.dp d v h
theorem DqAll.w {K : PySem.W.Frag} {H : Hp} {vs : List V} {ds : List PyData} (h : DqAll K H vs ds) : DpAll K H vs ds := DqAll.dp ds vs h
section
variable {X : Cx} {pins : List (Addr × Obj)} {σ : L2.St} {H : Hp} {s : Shared}
theorem Dq.reads (I : Inv X pins σ H s) (d : PyData) (v : V) (u : Value) (h : Dq X.K H v d) (r : RelV v u) : ∃ as, Reads s.heap u d as := Dp.reads I d v u h.w r
theorem Dq.readsAll (I : Inv X pins σ H s) (ds : List PyData) (vs : List V) (us : List Value) (h : DqAll X.K H vs ds) (r : Vals vs us) : ∃ as, ReadsAll s.heap us ds as := Dp.readsAll I ds vs us h.w r
end
/-! ### plain tuples are made -/
abbrev PlainO (o : Obj) : Prop := o.dict = none ∧ o.cls = .type "tuple"
section
variable {X : Cx} {pos : Pos} {es : List Expr} {t : TA}
theorem laidX {pins : List (Addr × Obj)} {σ : L2.St} {H : Hp} {s : Shared} {xs : List V} {us : List Value} (I : Inv X pins σ H s) (r : Vals xs us) (z : xs.length ≤ sizeLine) {h' : Heap} (k : ∀ b o, s.heap.get? b = some o → h'.get? b = some o) (p : Addr) (hp : s.heap.objs.size ≤ p)
    (e : h'.get? p = some { cls := .type "tuple", data := .seq us.toArray }) (t' : Nat) : Inv X pins σ (upd H p (.frz { cls := .type "tuple", data := .seq us.toArray } (.tup xs))) { s with heap := h', toks := t' } :=
  I.laid k hp ⟨e, z, us, r, ⟨_, e, rfl, _, rfl⟩⟩
def tTupX (t : TA) : TE := fun σ H Q => t σ H fun xs H1 => xs.length ≤ sizeLine ∧ ∀ p o, H1 p = none → PlainO o → Q (.ref p) (upd H1 p (.frz o (.tup xs)))
theorem pe_tupX {x1} (h : PA X es t) : PE X (.Tuple es x1 pos) (tTupX t) := by
  refine ⟨fun pins s σ H Q I hq => ?_⟩
  refine wpAny_Tuple_spliced (thn (h.run pos pins s σ H _ I hq) fun us s1 ⟨xs, H1, I1, r, z, q⟩ => ⟨by rw [← r.length]; exact z, ?_⟩)
  exact ⟨.ref s1.heap.objs.size, _, laidX I1 r z (fun b u e => Heap.get?_push_of_some _ e) _ (Nat.le_refl _) (Heap.get?_push_size _ rfl) s1.toks, rfl, q _ _ (I1.hok.fresh (Nat.le_refl _)) ⟨rfl, rfl⟩⟩
def rCatX (K : PySem.W.Frag) : R2 := fun x y H Q => ∃ a b xs ys, x = .ref a ∧ y = .ref b ∧ SqT K H a xs ∧ SqT K H b ys ∧ xs.length + ys.length ≤ sizeLine ∧
  (xs = [] → Q (.ref b) H) ∧ (xs ≠ [] → ys = [] → Q (.ref a) H) ∧ (xs ≠ [] → ys ≠ [] → ∀ p o, H p = none → PlainO o → Q (.ref p) (upd H p (.frz o (.tup (xs ++ ys)))))
theorem op_catX : OpR X (binaryOp .Add) (rCatX X.K) := by
  intro pins s σ H x y v u Q I rx ry h
  obtain ⟨a, b, xs, ys, rfl, rfl, ha, hb, hz, q0, q1, q2⟩ := h
  cases rx
  cases ry
  obtain ⟨its, r1, p1, _⟩ := I.tuple ha
  obtain ⟨its2, r2, p2, _⟩ := I.tuple hb
  by_cases hx : xs = []
  · subst hx
    cases r1
    exact cat_tup0 p1 p2 ⟨.ref b, H, I, rfl, q0 rfl⟩
  · refine HT.cat_tup p1 p2 (fun z => hx (r1.nil_iff.mp z)) (fun z => ⟨.ref a, H, I, rfl, q1 hx (r2.nil_iff.mp z)⟩) (fun z => ?_) (by rw [← r1.length, ← r2.length]; exact hz)
    exact ⟨.ref s.heap.objs.size, _, laidX I (r1.append r2) (by rw [List.length_append]; exact hz) (fun b ob q => Heap.get?_push_of_some _ q) _ (Nat.le_refl _) (Heap.get?_push_size _ rfl) s.toks, rfl,
      q2 hx (fun w => z (r2.nil_iff.mpr w)) _ _ (I.hok.fresh (Nat.le_refl _)) ⟨rfl, rfl⟩⟩
def rSlX (K : PySem.W.Frag) : V → Option Int → Option Int → Hp → VK → Prop := fun x lo hi H Q => ∃ a xs, x = .ref a ∧ SqT K H a xs ∧
  (HT.sIx xs.length 0 lo = 0 ∧ HT.sIx xs.length xs.length hi = xs.length → Q (.ref a) H) ∧ (¬ (HT.sIx xs.length 0 lo = 0 ∧ HT.sIx xs.length xs.length hi = xs.length) → ∀ p o, H p = none → PlainO o → Q (.ref p) (upd H p (.frz o (.tup (cutV xs lo hi)))))
theorem sl_tupX : SlR X (rSlX X.K) := by
  intro pins s σ H x v vl vu lo hi sl Q I rx hs pl pu h
  obtain ⟨a, xs, rfl, hx, q1, q2⟩ := h
  cases rx
  obtain ⟨its, r, ht, hz⟩ := I.tuple hx
  have hlen : its.toArray.size = xs.length := by rw [List.size_toArray]; exact r.length.symm
  refine ⟨"tuple", _, PyProof.Rows.slot_tuple_getitem.lookup, ht.typeIs, ?_⟩
  by_cases hw : HT.sIx xs.length 0 lo = 0 ∧ HT.sIx xs.length xs.length hi = xs.length
  · exact getItem_tuple_whole ht hs pl pu (by rw [hlen]; exact hw) ⟨.ref a, H, I, rfl, q1 hw⟩
  · refine HT.getItem_tuple_cut ht hs pl pu (by rw [hlen]; exact hw) ?_ (by rw [hlen]; exact hz)
    rw [hlen]
    exact ⟨.ref s.heap.objs.size, _, laidX (xs := cutV xs lo hi) I ((r.drop (HT.sIx xs.length 0 lo)).take (HT.sIx xs.length xs.length hi - HT.sIx xs.length 0 lo)) (Nat.le_trans (cutV_length xs lo hi) hz) (fun b ob q => Heap.get?_push_of_some _ q) _ (Nat.le_refl _) (Heap.get?_push_size _ rfl) s.toks, rfl,
      q2 hw _ _ (I.hok.fresh (Nat.le_refl _)) ⟨rfl, rfl⟩⟩
theorem call_tuple_ofX : CallR X (.type "tuple") (fun xs H Q => ∃ p ys, xs = [.ref p] ∧ SqL X.K H p ys ∧ ∀ l o, H l = none → PlainO o → Q (.ref l) (upd H l (.frz o (.tup ys)))) := by
  intro pins s σ H xs us Q I r h
  obtain ⟨p, ys, rfl, hq, q⟩ := h
  obtain ⟨u, rfl, rx⟩ := vals1 r
  cases rx
  obtain ⟨its, r', pl, hz⟩ := I.list hq
  have hlen := r'.length
  refine call_tuple_list pl.isList (fun h' kp => ?_) (by simp only [List.size_toArray] <;> omega)
  have I1 : Inv X pins σ H { s with heap := h' } := I.kept (t' := s.toks) kp
  exact ⟨.ref h'.objs.size, _, laidX I1 r' hz (fun b o e => Heap.get?_push_of_some _ e) _ (Nat.le_refl _) (Heap.get?_push_size _ rfl) s.toks, rfl, q _ _ (I1.hok.fresh (Nat.le_refl _)) ⟨rfl, rfl⟩⟩
end
end DL
end Sec_D0
section Sec_D1
set_option maxRecDepth 100000
/-! The data layer: judgements about expressions and statements by the data that they give. -/
namespace DL
open PySem PySem.Spec PyProof.Rows L2

/-- what is known of a slot: nothing, a datum, a list that may be changed (own: made here), a dict that stands still -/
inductive Sv where
  | u
  | d (x : PyData)
  | m (own : Bool) (xs : List PyData)
  | t (kvs : List (Key × V))
abbrev Rho := List Sv

/-- a heap without the addresses of M -/
def msk (M : List Addr) (H : Hp) : Hp := fun a => if a ∈ M then none else H a
theorem msk_in {M : List Addr} {H : Hp} {a : Addr} (h : a ∈ M) : msk M H a = none := by unfold msk; rw [if_pos h]
theorem msk_out {M : List Addr} {H : Hp} {a : Addr} (h : a ∉ M) : msk M H a = H a := by unfold msk; rw [if_neg h]
theorem msk_le {M : List Addr} {H : Hp} : Same (msk M H) H := fun b o e => by
  by_cases h : b ∈ M
  · rw [msk_in h] at e; cases e
  · rw [msk_out h] at e; exact e
theorem msk_some {M : List Addr} {H : Hp} {b : Addr} {o : HO} (e : msk M H b = some o) : b ∉ M ∧ H b = some o := by
  by_cases h : b ∈ M
  · rw [msk_in h] at e; cases e
  · rw [msk_out h] at e; exact ⟨h, e⟩
theorem msk_mono {M : List Addr} {H H' : Hp} (s : ∀ b o, b ∉ M → H b = some o → H' b = some o) : Same (msk M H) (msk M H') := fun b o e => by
  obtain ⟨h1, h2⟩ := msk_some e
  rw [msk_out h1]; exact s b o h1 h2
/-- fewer addresses hidden -/
theorem msk_sub {M M' : List Addr} {H : Hp} (s : ∀ a ∈ M', a ∈ M) : Same (msk M H) (msk M' H) := fun b o e => by
  obtain ⟨h1, h2⟩ := msk_some e
  rw [msk_out fun z => h1 (s b z)]; exact h2

/-! ### data stand on -/
theorem same_sqt {K : PySem.W.Frag} {H H' : Hp} {a : Addr} {xs : List V} (e : Same H H') (h : SqT K H a xs) : SqT K H' a xs := by
  rcases h with (h | ⟨o, h⟩) | h
  · exact .inl (.inl (e _ _ h))
  · exact .inl (.inr ⟨o, e _ _ h⟩)
  · exact .inr h
mutual
theorem dp_mono {K : PySem.W.Frag} {H H' : Hp} (s : Same H H') : ∀ (d : PyData) (v : V), Dq K H v d → Dq K H' v d
  | .none, _, h => by cases h; exact .non
  | .bool b, _, h => by cases h; exact .bl b
  | .int i, _, h => by cases h; exact .int i
  | .str x, _, h => by cases h; exact .str x
  | .list ds, _, h => by
    cases h with
    | lst hs ha => exact .lst (Same.seq s hs) (dpa_mono s ds _ ha)
  | .tuple ds, _, h => by
    cases h with
    | tup hs ha => exact .tup (hs.mono s) (dpa_mono s ds _ ha)
  | .dict _, _, h => by cases h
theorem dpa_mono {K : PySem.W.Frag} {H H' : Hp} (s : Same H H') : ∀ (ds : List PyData) (vs : List V), DqAll K H vs ds → DqAll K H' vs ds
  | [], _, h => by cases h; exact .nil
  | d :: ds, _, h => by
    cases h with
    | cons h1 h2 => exact .cons (dp_mono s d _ h1) (dpa_mono s ds _ h2)
end
theorem dpa_length {K : PySem.W.Frag} {H : Hp} : ∀ {ds : List PyData} {vs : List V}, DqAll K H vs ds → vs.length = ds.length
  | [], _, h => by cases h; rfl
  | d :: ds, _, h => by
    cases h with
    | cons h1 h2 => simp [dpa_length h2]
theorem dpa_get {K : PySem.W.Frag} {H : Hp} : ∀ {ds : List PyData} {vs : List V} {i : Nat} {d : PyData}, DqAll K H vs ds → ds[i]? = some d → ∃ v, vs[i]? = some v ∧ Dq K H v d
  | [], _, _, _, _, e => by simp at e
  | x :: ds, _, 0, d, h, e => by
    cases h with
    | cons h1 h2 =>
      simp at e; subst e
      exact ⟨_, rfl, h1⟩
  | x :: ds, _, i + 1, d, h, e => by
    cases h with
    | cons h1 h2 =>
      obtain ⟨v, e1, e2⟩ := dpa_get (i := i) (d := d) h2 (by simpa using e)
      exact ⟨v, by simpa using e1, e2⟩
theorem dpa_of_get {K : PySem.W.Frag} {H : Hp} : ∀ {ds : List PyData} {vs : List V} {i : Nat} {v : V}, DqAll K H vs ds → vs[i]? = some v → ∃ d, ds[i]? = some d ∧ Dq K H v d
  | [], _, _, _, h, e => by cases h; simp at e
  | x :: ds, _, 0, v, h, e => by
    cases h with
    | cons h1 h2 =>
      simp at e; subst e
      exact ⟨_, rfl, h1⟩
  | x :: ds, _, i + 1, v, h, e => by
    cases h with
    | cons h1 h2 =>
      obtain ⟨d, e1, e2⟩ := dpa_of_get (i := i) (v := v) h2 (by simpa using e)
      exact ⟨d, by simpa using e1, e2⟩
theorem dpa_append {K : PySem.W.Frag} {H : Hp} : ∀ {ds es : List PyData} {vs ws : List V}, DqAll K H vs ds → DqAll K H ws es → DqAll K H (vs ++ ws) (ds ++ es)
  | [], _, _, _, h, g => by cases h; exact g
  | d :: ds, _, _, _, h, g => by
    cases h with
    | cons h1 h2 => exact .cons h1 (dpa_append h2 g)
theorem dpa_take {K : PySem.W.Frag} {H : Hp} : ∀ {ds : List PyData} {vs : List V} (n : Nat), DqAll K H vs ds → DqAll K H (vs.take n) (ds.take n)
  | _, _, 0, _ => .nil
  | [], _, n + 1, h => by cases h; exact .nil
  | d :: ds, _, n + 1, h => by
    cases h with
    | cons h1 h2 => exact .cons h1 (dpa_take n h2)
theorem dpa_drop {K : PySem.W.Frag} {H : Hp} : ∀ {ds : List PyData} {vs : List V} (n : Nat), DqAll K H vs ds → DqAll K H (vs.drop n) (ds.drop n)
  | _, _, 0, h => h
  | [], _, n + 1, h => by cases h; exact .nil
  | d :: ds, _, n + 1, h => by
    cases h with
    | cons h1 h2 => exact dpa_drop n h2
theorem dpa_reverse {K : PySem.W.Frag} {H : Hp} : ∀ {ds : List PyData} {vs : List V}, DqAll K H vs ds → DqAll K H vs.reverse ds.reverse
  | [], _, h => by cases h; exact .nil
  | d :: ds, _, h => by
    cases h with
    | cons h1 h2 =>
      rw [List.reverse_cons, List.reverse_cons]
      exact dpa_append (dpa_reverse h2) (.cons h1 .nil)
theorem dpa_set {K : PySem.W.Frag} {H : Hp} : ∀ {ds : List PyData} {vs : List V} (i : Nat) {v : V} {d : PyData}, DqAll K H vs ds → Dq K H v d → DqAll K H (vs.set i v) (ds.set i d)
  | [], _, _, _, _, h, _ => by cases h; exact .nil
  | x :: ds, _, 0, _, _, h, g => by
    cases h with
    | cons h1 h2 => exact .cons g h2
  | x :: ds, _, i + 1, _, _, h, g => by
    cases h with
    | cons h1 h2 => exact .cons h1 (dpa_set i h2 g)
theorem dpa_ints {K : PySem.W.Frag} {H : Hp} : ∀ {ns : List Int} {vs : List V}, DqAll K H vs (ns.map .int) → vs = ns.map .int
  | [], _, h => by cases h; rfl
  | n :: ns, _, h => by
    cases h with
    | cons h1 h2 => cases h1; rw [dpa_ints h2]; rfl
theorem dpa_of_ints {K : PySem.W.Frag} {H : Hp} : ∀ (ns : List Int), DqAll K H (ns.map .int) (ns.map .int)
  | [] => .nil
  | n :: ns => .cons (.int n) (dpa_of_ints ns)
theorem dpa_bls {K : PySem.W.Frag} {H : Hp} : ∀ {bs : List Bool} {vs : List V}, DqAll K H vs (bs.map .bool) → vs = bs.map .bl
  | [], _, h => by cases h; rfl
  | n :: ns, _, h => by
    cases h with
    | cons h1 h2 => cases h1; rw [dpa_bls h2]; rfl

/-! ### the state -/
/-- a frame: what was hidden at its entry, what of it may be changed, what is locked for a while, the heap at the entry, at the lock -/
structure Fr0 where
  M0 : List Addr
  W0 : List Addr
  L : List Addr
  H0 : Hp
  HL : Hp
structure Ok (K : PySem.W.Frag) (G : Fr0) (M : List Addr) (r : Rho) (σ : L2.St) (H : Hp) : Prop where
  sub : ∀ a ∈ G.M0, a ∈ M
  new : ∀ a ∈ M, a ∉ G.M0 → G.H0 a = none
  dom : ∀ a ∈ M, H a ≠ none
  fr : ∀ a o, a ∉ G.W0 → G.H0 a = some o → H a = some o
  len : σ.length = r.length
  sv : ∀ (i : Nat) (x : PyData), r[i]? = some (Sv.d x) → ∃ v, σ[i]? = some (some v) ∧ Dq K (msk M H) v x
  mv : ∀ (i : Nat) (o : Bool) (xs : List PyData), r[i]? = some (Sv.m o xs) → ∃ a vs, σ[i]? = some (some (V.ref a)) ∧ a ∈ M ∧ H a = some (HO.lst vs) ∧ DqAll K (msk M H) vs xs ∧ a ∉ G.L ∧ (o = true → a ∉ G.M0) ∧ (o = false → a ∈ G.W0)
  inj : ∀ (i j : Nat) (o : Bool) (xs : List PyData) (o' : Bool) (ys : List PyData) (a : Addr), r[i]? = some (Sv.m o xs) → r[j]? = some (Sv.m o' ys) → σ[i]? = some (some (V.ref a)) → σ[j]? = some (some (V.ref a)) → i = j
  wm : ∀ a ∈ G.W0, a ∈ G.M0
  lk : ∀ a ∈ G.L, a ∈ M ∧ H a = G.HL a
  tv : ∀ (i : Nat) (kvs : List (Key × V)), r[i]? = some (Sv.t kvs) → ∃ a, σ[i]? = some (some (V.ref a)) ∧ msk M H a = some (.dK kvs)
section
variable {K : PySem.W.Frag} {G : Fr0} {M : List Addr} {r : Rho} {σ : L2.St} {H H' : Hp}
theorem Ok.nin (o : Ok K G M r σ H) {p : Addr} (h : H p = none) : p ∉ M := fun z => o.dom p z h
/-- the heap has grown -/
theorem Ok.grow (o : Ok K G M r σ H) (s : Same H H') : Ok K G M r σ H' := by
  have ms : Same (msk M H) (msk M H') := msk_mono fun b o' _ e => s b o' e
  refine ⟨o.sub, o.new, fun a ha z => ?_, fun a u h1 h2 => s _ _ (o.fr a u h1 h2), o.len, fun i x e => ?_, fun i ow xs e => ?_, o.inj, o.wm, fun a ha => ⟨(o.lk a ha).1, ?_⟩, fun i kvs e => let ⟨a, e1, e2⟩ := o.tv i kvs e; ⟨a, e1, ms _ _ e2⟩⟩
  · cases q : H a with
    | none => exact o.dom a ha q
    | some u => rw [s a u q] at z; cases z
  · obtain ⟨v, e1, e2⟩ := o.sv i x e
    exact ⟨v, e1, dp_mono ms _ _ e2⟩
  · obtain ⟨a, vs, e1, e2, e3, e4, e5⟩ := o.mv i ow xs e
    exact ⟨a, vs, e1, e2, s _ _ e3, dpa_mono ms _ _ e4, e5⟩
  · obtain ⟨h1, h2⟩ := o.lk a ha
    rw [← h2]
    cases q : H a with
    | none => exact (o.dom a h1 q).elim
    | some u => exact s a u q
/-- a new object -/
theorem same_new {p : Addr} {o : HO} (h : H p = none) : Same H (upd H p o) := fun b u e => by
  rw [upd_ne (ne_of_none e h)]; exact e
theorem Ok.laid (o : Ok K G M r σ H) {p : Addr} {u : HO} (h : H p = none) : Ok K G M r σ (upd H p u) := o.grow (same_new h)
theorem msk_new (o : Ok K G M r σ H) {p : Addr} {u : HO} (h : H p = none) : msk M (upd H p u) p = some u := by
  rw [msk_out (o.nin h), upd_same]
theorem msk_grow (s : Same H H') : Same (msk M H) (msk M H') := msk_mono fun b o' _ e => s b o' e
/-- a slot is given a datum -/
theorem Ok.set (o : Ok K G M r σ H) {i : Nat} {v : V} {x : PyData} (hx : Dq K (msk M H) v x) : Ok K G M (r.set i (Sv.d x)) (σ.set i (some v)) H := by
  refine ⟨o.sub, o.new, o.dom, o.fr, by simp [o.len], fun j y e => ?_, fun j ow xs e => ?_, fun j k ow xs ow' ys a e1 e2 e3 e4 => ?_, o.wm, o.lk, fun j kvs e => ?_⟩
  · by_cases h : i = j
    · subst h
      by_cases hl : i < r.length
      · rw [List.getElem?_set_self hl] at e
        cases e
        exact ⟨v, by rw [List.getElem?_set_self (by rw [o.len]; exact hl)], hx⟩
      · rw [List.getElem?_eq_none (by simpa using hl)] at e; cases e
    · rw [List.getElem?_set_ne h] at e
      rw [List.getElem?_set_ne h]
      exact o.sv j y e
  · by_cases h : i = j
    · subst h
      by_cases hl : i < r.length
      · rw [List.getElem?_set_self hl] at e; cases e
      · rw [List.getElem?_eq_none (by simpa using hl)] at e; cases e
    · rw [List.getElem?_set_ne h] at e
      rw [List.getElem?_set_ne h]
      exact o.mv j ow xs e
  · have n1 : i ≠ j := fun h => by
      subst h
      by_cases hl : i < r.length
      · rw [List.getElem?_set_self hl] at e1; cases e1
      · rw [List.getElem?_eq_none (by simpa using hl)] at e1; cases e1
    have n2 : i ≠ k := fun h => by
      subst h
      by_cases hl : i < r.length
      · rw [List.getElem?_set_self hl] at e2; cases e2
      · rw [List.getElem?_eq_none (by simpa using hl)] at e2; cases e2
    rw [List.getElem?_set_ne n1] at e1 e3
    rw [List.getElem?_set_ne n2] at e2 e4
    exact o.inj j k _ _ _ _ a e1 e2 e3 e4
  · by_cases h : i = j
    · subst h
      by_cases hl : i < r.length
      · rw [List.getElem?_set_self hl] at e; cases e
      · rw [List.getElem?_eq_none (by simpa using hl)] at e; cases e
    · rw [List.getElem?_set_ne h] at e
      rw [List.getElem?_set_ne h]
      exact o.tv j kvs e
/-- what is said of the slots is forgotten in part -/
theorem Ok.less (o : Ok K G M r σ H) {r' : Rho} (hl : r'.length = r.length) (h : ∀ (i : Nat) (s : Sv), r'[i]? = some s → s = Sv.u ∨ r[i]? = some s) : Ok K G M r' σ H := by
  refine ⟨o.sub, o.new, o.dom, o.fr, by rw [hl]; exact o.len, fun j y e => ?_, fun j ow xs e => ?_, fun j k ow xs ow' ys a e1 e2 e3 e4 => ?_, o.wm, o.lk, fun j kvs e => (h j _ e).elim (fun z => by cases z) fun z => o.tv j kvs z⟩
  · rcases h j _ e with z | z
    · cases z
    · exact o.sv j y z
  · rcases h j _ e with z | z
    · cases z
    · exact o.mv j _ _ z
  · rcases h j _ e1 with z | z
    · cases z
    · rcases h k _ e2 with y | y
      · cases y
      · exact o.inj j k _ _ _ _ a z y e3 e4
end

/-! ### the judgements -/
/-- what stands behind an expression -/
def tE (K : PySem.W.Frag) (G : Fr0) (r : Rho) (x : PyData) (r' : Rho) : TE := fun σ H Q => ∃ M, Ok K G M r σ H ∧ ∀ v H', Ok K G M r' σ H' → Same (msk M H) (msk M H') → Dq K (msk M H') v x → Q v H'
def tT (K : PySem.W.Frag) (G : Fr0) (r : Rho) (c : Bool) (r' : Rho) : TT := fun σ H Q => ∃ M, Ok K G M r σ H ∧ ∀ H', Ok K G M r' σ H' → Same (msk M H) (msk M H') → Q c H'
def tA (K : PySem.W.Frag) (G : Fr0) (r : Rho) (xs : List PyData) (r' : Rho) : TA := fun σ H Q => ∃ M, Ok K G M r σ H ∧ ∀ vs H', Ok K G M r' σ H' → Same (msk M H) (msk M H') → DqAll K (msk M H') vs xs → Q vs H'
def tR (K : PySem.W.Frag) (G : Fr0) (r : Rho) (x : PyData) (r' : Rho) : TE := fun σ H Q => ∃ M, Ok K G M r σ H ∧ ∀ v H', Ok K G M r' σ H' → Same (msk M H) (msk M H') → Dq K H' v x → Q v H'
/-- what the list at slot 0 holds, if it is the caller's -/
def bagOf : Rho → List PyData
  | .m false us :: _ => us
  | _ => []
/-- how a statement ends: on with these slots; with this answer (and what the caller's list then holds); with a new list of these -/
inductive Out where
  | nx (r : Rho)
  | rt (x : PyData) (b : List PyData)
  | fr (xs : List PyData)
def tS (K : PySem.W.Frag) (G : Fr0) (r : Rho) : Out → TS
  | .nx r' => fun D σ H => ∃ M, Ok K G M r σ H ∧ ∀ M' σ' H', Ok K G M' r' σ' H' → Same (msk M H) (msk M' H') → D.nx σ' H'
  | .rt x b => fun D σ H => ∃ M, Ok K G M r σ H ∧ ∀ M' v r' σ' H', Ok K G M' r' σ' H' → bagOf r' = b → Dq K (msk G.M0 H') v x → D.rt v H'
  | .fr xs => fun D σ H => ∃ M, Ok K G M r σ H ∧ ∀ M' p vs r' σ' H', Ok K G M' r' σ' H' → G.H0 p = none → p ∉ G.M0 → H' p = some (.lst vs) → DqAll K (msk (p :: G.M0) H') vs xs → D.rt (.ref p) H'
/-- a target's slots ts alone are stored to -/
def tG (K : PySem.W.Frag) (G : Fr0) (r : Rho) (x : PyData) (r' : Rho) (ts : List Nat) : TG := fun v σ H Q => ∃ M, Ok K G M r σ H ∧ Dq K (msk M H) v x ∧ ∀ σ' H', Ok K G M r' σ' H' → Same (msk M H) (msk M H') → (σ'.length = σ.length ∧ ∀ j : Nat, j ∉ ts → σ'[j]? = σ[j]?) → Q σ' H'
def tGs (K : PySem.W.Frag) (G : Fr0) (r : Rho) (xs : List PyData) (r' : Rho) (ts : List Nat) : TGs := fun vs σ H Q => ∃ M, Ok K G M r σ H ∧ DqAll K (msk M H) vs xs ∧ ∀ σ' H', Ok K G M r' σ' H' → Same (msk M H) (msk M H') → (σ'.length = σ.length ∧ ∀ j : Nat, j ∉ ts → σ'[j]? = σ[j]?) → Q σ' H'
abbrev DG (X : Cx) (G : Fr0) (r : Rho) (tg : Expr) (x : PyData) (r' : Rho) (ts : List Nat) : Prop := PG X tg (tG X.K G r x r' ts)
abbrev DGs (X : Cx) (G : Fr0) (r : Rho) (tgs : List Expr) (xs : List PyData) (r' : Rho) (ts : List Nat) : Prop := PGs X tgs (tGs X.K G r xs r' ts)
abbrev DE (X : Cx) (G : Fr0) (r : Rho) (e : Expr) (x : PyData) (r' : Rho) : Prop := PE X e (tE X.K G r x r')
abbrev DT (X : Cx) (G : Fr0) (r : Rho) (e : Expr) (c : Bool) (r' : Rho) : Prop := PT X e (tT X.K G r c r')
abbrev DA (X : Cx) (G : Fr0) (r : Rho) (es : List Expr) (xs : List PyData) (r' : Rho) : Prop := PA X es (tA X.K G r xs r')
abbrev DR (X : Cx) (G : Fr0) (r : Rho) (e : Expr) (x : PyData) (r' : Rho) : Prop := PE X e (tR X.K G r x r')
abbrev DS (X : Cx) (G : Fr0) (r : Rho) (st : Stmt) (o : Out) : Prop := PS X st (tS X.K G r o)
abbrev DB (X : Cx) (G : Fr0) (r : Rho) (sts : List Stmt) (o : Out) : Prop := PSs X sts (tS X.K G r o)

/-! ### weakening of readings -/
section
variable {X : Cx}
theorem pe_imp {e : Expr} {t t' : TE} (h : PE X e t) (i : ∀ σ H Q, t' σ H Q → t σ H Q) : PE X e t' := ⟨fun pins s σ H Q I q => h.run pins s σ H Q I (i σ H Q q)⟩
theorem pt_imp {e : Expr} {t t' : TT} (h : PT X e t) (i : ∀ σ H Q, t' σ H Q → t σ H Q) : PT X e t' := ⟨fun pins s σ H Q I q => h.run pins s σ H Q I (i σ H Q q)⟩
theorem pw_imp {e : Expr} {t t' : TT} (h : PW X e t) (i : ∀ σ H Q, t' σ H Q → t σ H Q) : PW X e t' := ⟨fun wh pins s σ H Q I q => h.run wh pins s σ H Q I (i σ H Q q)⟩
theorem pa_imp {es : List Expr} {t t' : TA} (h : PA X es t) (i : ∀ σ H Q, t' σ H Q → t σ H Q) : PA X es t' := ⟨fun pos pins s σ H Q I q => h.run pos pins s σ H Q I (i σ H Q q)⟩
theorem ps_imp {st : Stmt} {t t' : TS} (h : PS X st t) (i : ∀ D σ H, t' D σ H → t D σ H) : PS X st t' := ⟨fun pins s σ H D I q => h.run pins s σ H D I (i D σ H q)⟩
theorem pss_imp {st : List Stmt} {t t' : TS} (h : PSs X st t) (i : ∀ D σ H, t' D σ H → t D σ H) : PSs X st t' := ⟨fun pins s σ H D I q => h.run pins s σ H D I (i D σ H q)⟩
end

/-! ### names, constants -/
section
variable {X : Cx} {G : Fr0} {r r1 r2 r3 : Rho}
theorem dv (i : Nat) {x : Str} {pos : Pos} {d : PyData} (hr : r[i]? = some (Sv.d d) := by rfl) (hN : X.N[i]? = some x := by rfl) (hv : Vis X.env.scope x := by first | exact Or.inl rfl | exact Or.inr (Or.inl rfl) | exact Or.inr (Or.inr rfl))
    (hd : (x == ("__debug__" : Str)) = false := by decide) (hcd : (x == ("__classdict__" : Str)) = false := by decide) : DE X G r (.Name x pos) d r :=
  pe_imp (pe_var hN hv hd hcd) fun σ H Q ⟨M, o, k⟩ => by
    obtain ⟨v, e1, e2⟩ := o.sv i d hr
    exact ⟨v, e1, k v H o (fun _ _ z => z) e2⟩
/-- a list that may be changed, read for a moment -/
theorem dvm (i : Nat) {x : Str} {pos : Pos} {ow : Bool} {xs : List PyData} (hr : r[i]? = some (Sv.m ow xs) := by rfl) (hN : X.N[i]? = some x := by rfl) (hv : Vis X.env.scope x := by first | exact Or.inl rfl | exact Or.inr (Or.inl rfl) | exact Or.inr (Or.inr rfl))
    (hd : (x == ("__debug__" : Str)) = false := by decide) (hcd : (x == ("__classdict__" : Str)) = false := by decide) : DR X G r (.Name x pos) (.list xs) r :=
  pe_imp (pe_var hN hv hd hcd) fun σ H Q ⟨M, o, k⟩ => by
    obtain ⟨a, vs, e1, e2, e3, e4, _⟩ := o.mv i ow xs hr
    exact ⟨_, e1, k _ H o (fun _ _ z => z) (.lst (SqL.of e3) (dpa_mono msk_le _ _ e4))⟩
theorem dr {e : Expr} {d : PyData} (h : DE X G r e d r1) : DR X G r e d r1 := pe_imp h fun σ H Q ⟨M, o, k⟩ => ⟨M, o, fun v H' o' s d' => k v H' o' s (dp_mono msk_le _ _ d')⟩
theorem di {i : Int} {j pos} : DE X G r (.Constant (.int i) j pos) (.int i) r := pe_imp pe_int fun σ H Q ⟨M, o, k⟩ => k _ H o (fun _ _ z => z) (.int i)
theorem db {b : Bool} {j pos} : DE X G r (.Constant (.bool b) j pos) (.bool b) r := pe_imp pe_bl fun σ H Q ⟨M, o, k⟩ => k _ H o (fun _ _ z => z) (.bl b)
theorem dn {j pos} : DE X G r (.Constant .none j pos) .none r := pe_imp pe_non fun σ H Q ⟨M, o, k⟩ => k _ H o (fun _ _ z => z) .non
theorem ds {x : Str} {j pos} : DE X G r (.Constant (.str x) j pos) (.str x) r := pe_imp pe_str fun σ H Q ⟨M, o, k⟩ => k _ H o (fun _ _ z => z) (.str x)
/-- a name of the module that stands for a datum -/
def Cst (K : PySem.W.Frag) (mg : Str → Option Value) (x : Str) (d : PyData) : Prop := ∃ v u, mg x = some u ∧ RelV v u ∧ ∀ H, Dq K H v d
theorem dg {x : Str} {pos : Pos} {d : PyData} (h : Cst X.K X.mg x d) (hg : Gl X x := by rfl) (hd : (x == ("__debug__" : Str)) = false := by decide) : DE X G r (.Name x pos) d r := by
  obtain ⟨v, u, e1, e2, e3⟩ := h
  exact pe_imp (pe_glob hg e1 e2 hd) fun σ H Q ⟨M, o, k⟩ => k v H o (fun _ _ z => z) (e3 _)

/-! ### two operands -/
theorem d2 {op : Value → Value → Sem Value} {f : R2} {a b : Expr} {x y z : PyData} (h : ∀ M σ H v u (Q : VK), Ok X.K G M r2 σ H → Dq X.K H v x → Dq X.K (msk M H) u y → (∀ w H', Ok X.K G M r2 σ H' → Same (msk M H) (msk M H') → Dq X.K (msk M H') w z → Q w H') → f v u H Q)
    (σ : L2.St) (H : Hp) (Q : VK) (hq : tE X.K G r z r2 σ H Q) : tOp f (tE X.K G r x r1) (tE X.K G r1 y r2) σ H Q := by
  obtain ⟨M, o, k⟩ := hq
  refine ⟨M, o, fun v H1 o1 s1 dx => ⟨M, o1, fun u H2 o2 s2 dy => ?_⟩⟩
  exact h M σ H2 v u Q o2 (dp_mono msk_le _ _ (dp_mono s2 _ _ dx)) dy fun w H3 o3 s3 dz => k w H3 o3 (Same.trans (Same.trans s1 s2) s3) dz
theorem d2I {C : Int → Int → Prop} {g : Int → Int → V} {a b : Expr} {op : Operator} {pos : Pos} {i j : Int} {z : PyData} (ho : OpR X (binaryOp op) (rI C g)) (hc : C i j) (hz : ∀ H, Dq X.K H (g i j) z)
    (ha : DE X G r a (.int i) r1) (hb : DE X G r1 b (.int j) r2) : DE X G r (.BinOp a op b pos) z r2 :=
  pe_imp (pe_op ho ha hb) fun σ H Q ⟨M, o, k⟩ => ⟨M, o, fun v H1 o1 s1 dx => ⟨M, o1, fun u H2 o2 s2 dy => by
    cases dx; cases dy
    exact ⟨i, j, rfl, rfl, hc, k _ H2 o2 (Same.trans s1 s2) (hz _)⟩⟩⟩
theorem d2I0 {g : Int → Int → V} {a b : Expr} {op : Operator} {pos : Pos} {i j : Int} {z : PyData} (ho : OpR X (binaryOp op) (rI0 g)) (hz : ∀ H, Dq X.K H (g i j) z)
    (ha : DE X G r a (.int i) r1) (hb : DE X G r1 b (.int j) r2) : DE X G r (.BinOp a op b pos) z r2 :=
  pe_imp (pe_op ho ha hb) fun σ H Q ⟨M, o, k⟩ => ⟨M, o, fun v H1 o1 s1 dx => ⟨M, o1, fun u H2 o2 s2 dy => by
    cases dx; cases dy
    exact ⟨i, j, rfl, rfl, k _ H2 o2 (Same.trans s1 s2) (hz _)⟩⟩⟩
variable {a b c e : Expr} {pos : Pos} {i j : Int}
theorem dAdd (ha : DE X G r a (.int i) r1) (hb : DE X G r1 b (.int j) r2) : DE X G r (.BinOp a .Add b pos) (.int (i + j)) r2 := d2I0 op_add (fun _ => .int _) ha hb
theorem dSub (ha : DE X G r a (.int i) r1) (hb : DE X G r1 b (.int j) r2) : DE X G r (.BinOp a .Sub b pos) (.int (i - j)) r2 := d2I0 op_sub (fun _ => .int _) ha hb
theorem dMul (hc : CMul i j) (ha : DE X G r a (.int i) r1) (hb : DE X G r1 b (.int j) r2) : DE X G r (.BinOp a .Mult b pos) (.int (i * j)) r2 := d2I op_mul hc (fun _ => .int _) ha hb
theorem dDiv (hc : CDivW i j) (ha : DE X G r a (.int i) r1) (hb : DE X G r1 b (.int j) r2) : DE X G r (.BinOp a .FloorDiv b pos) (.int (i / j)) r2 := d2I op_fdivW hc (fun _ => .int _) ha hb
theorem dMod (hc : 0 < j) (ha : DE X G r a (.int i) r1) (hb : DE X G r1 b (.int j) r2) : DE X G r (.BinOp a .Mod b pos) (.int (i % j)) r2 := d2I op_mod hc (fun _ => .int _) ha hb
theorem dPow (hc : CPow i j) (ha : DE X G r a (.int i) r1) (hb : DE X G r1 b (.int j) r2) : DE X G r (.BinOp a .Pow b pos) (.int (i ^ j.toNat)) r2 := d2I op_pow hc (fun _ => .int _) ha hb
theorem dNeg (ha : DE X G r a (.int i) r1) : DE X G r (.UnaryOp .USub a pos) (.int (-i)) r1 :=
  pe_imp (pe_un un_neg ha) fun σ H Q ⟨M, o, k⟩ => ⟨M, o, fun v H1 o1 s1 dx => by
    cases dx
    exact ⟨i, rfl, k _ H1 o1 s1 (.int _)⟩⟩
end
end DL
end Sec_D1
section Sec_D2
set_option maxRecDepth 100000
/-! The data layer 2: comparisons, tests, displays, subscripts, slices, sums of sequences. -/
namespace DL
open PySem PySem.Spec PyProof.Rows L2
section
variable {X : Cx} {G : Fr0} {r r1 r2 r3 : Rho} {a b c e : Expr} {es : List Expr} {pos : Pos} {i j : Int} {x y z : PyData} {xs ys : List PyData}

/-! ### comparisons -/
/-- a comparison by its rule, as a value and as a test -/
theorem dCmp {op : CmpOp} {f : R2} {k : Bool} (ho : OpR X (compareOp op) f) (hm : behindInMarks op b = false)
    (h : ∀ v u H (Q : VK), Dq X.K H v x → Dq X.K H u y → Q (.bl k) H → f v u H Q) (ha : DR X G r a x r1) (hb : DR X G r1 b y r2)
    (hst : ∀ M σ H H' v, Ok X.K G M r1 σ H → Ok X.K G M r2 σ H' → Same (msk M H) (msk M H') → Dq X.K H v x → Dq X.K H' v x) : DE X G r (.Compare a [op] [b] pos) (.bool k) r2 :=
  pe_imp (pe_cmpR ho ha hb hm) fun σ H Q ⟨M, o, q⟩ => ⟨M, o, fun v H1 o1 s1 dx => ⟨M, o1, fun u H2 o2 s2 dy =>
    h v u H2 Q (hst M σ H1 H2 v o1 o2 s2 dx) dy (q _ H2 o2 (Same.trans s1 s2) (.bl k))⟩⟩
theorem tCmp' {op : CmpOp} {f : R2} {k : Bool} (ho : OpR X (compareOp op) f) (hm : behindInMarks op b = false)
    (h : ∀ v u H (Q : VK), Dq X.K H v x → Dq X.K H u y → Q (.bl k) H → f v u H Q) (ha : DR X G r a x r1) (hb : DR X G r1 b y r2)
    (hst : ∀ M σ H H' v, Ok X.K G M r1 σ H → Ok X.K G M r2 σ H' → Same (msk M H) (msk M H') → Dq X.K H v x → Dq X.K H' v x) : DT X G r (.Compare a [op] [b] pos) k r2 :=
  pt_imp (pt_cmpR ho ha hb hm) fun σ H Q ⟨M, o, q⟩ => ⟨M, o, fun v H1 o1 s1 dx => ⟨M, o1, fun u H2 o2 s2 dy =>
    h v u H2 _ (hst M σ H1 H2 v o1 o2 s2 dx) dy ⟨k, rfl, q H2 o2 (Same.trans s1 s2)⟩⟩⟩
/-- the left side is a datum that needs no list that may be changed -/
theorem dCmpE {op : CmpOp} {f : R2} {k : Bool} (ho : OpR X (compareOp op) f) (hm : behindInMarks op b = false)
    (h : ∀ v u H (Q : VK), Dq X.K H v x → Dq X.K H u y → Q (.bl k) H → f v u H Q) (ha : DE X G r a x r1) (hb : DR X G r1 b y r2) : DE X G r (.Compare a [op] [b] pos) (.bool k) r2 :=
  pe_imp (pe_cmpR ho ha hb hm) fun σ H Q ⟨M, o, q⟩ => ⟨M, o, fun v H1 o1 s1 dx => ⟨M, o1, fun u H2 o2 s2 dy =>
    h v u H2 Q (dp_mono msk_le _ _ (dp_mono s2 _ _ dx)) dy (q _ H2 o2 (Same.trans s1 s2) (.bl k))⟩⟩
theorem tCmpE {op : CmpOp} {f : R2} {k : Bool} (ho : OpR X (compareOp op) f) (hm : behindInMarks op b = false)
    (h : ∀ v u H (Q : VK), Dq X.K H v x → Dq X.K H u y → Q (.bl k) H → f v u H Q) (ha : DE X G r a x r1) (hb : DR X G r1 b y r2) : DT X G r (.Compare a [op] [b] pos) k r2 :=
  pt_imp (pt_cmpR ho ha hb hm) fun σ H Q ⟨M, o, q⟩ => ⟨M, o, fun v H1 o1 s1 dx => ⟨M, o1, fun u H2 o2 s2 dy =>
    h v u H2 _ (dp_mono msk_le _ _ (dp_mono s2 _ _ dx)) dy ⟨k, rfl, q H2 o2 (Same.trans s1 s2)⟩⟩⟩
theorem cmpI {g : Int → Int → Bool} {k : Bool} (hk : g i j = k) : ∀ v u H (Q : VK), Dq X.K H v (.int i) → Dq X.K H u (.int j) → Q (.bl k) H → rI0 (fun i j => .bl (g i j)) v u H Q := fun v u H Q hx hy q => by
  cases hx; cases hy
  subst hk
  exact ⟨i, j, rfl, rfl, q⟩
theorem dLt (ha : DE X G r a (.int i) r1) (hb : DE X G r1 b (.int j) r2) : DE X G r (.Compare a [.Lt] [b] pos) (.bool (decide (i < j))) r2 := dCmpE op_lt (nomark _) (cmpI rfl) ha (dr hb)
theorem dLe (ha : DE X G r a (.int i) r1) (hb : DE X G r1 b (.int j) r2) : DE X G r (.Compare a [.LtE] [b] pos) (.bool (decide (i ≤ j))) r2 := dCmpE op_le (nomark _) (cmpI rfl) ha (dr hb)
theorem dGt (ha : DE X G r a (.int i) r1) (hb : DE X G r1 b (.int j) r2) : DE X G r (.Compare a [.Gt] [b] pos) (.bool (decide (j < i))) r2 := dCmpE op_gt (nomark _) (cmpI rfl) ha (dr hb)
theorem dGe (ha : DE X G r a (.int i) r1) (hb : DE X G r1 b (.int j) r2) : DE X G r (.Compare a [.GtE] [b] pos) (.bool (decide (j ≤ i))) r2 := dCmpE op_ge (nomark _) (cmpI rfl) ha (dr hb)
theorem tLt (ha : DE X G r a (.int i) r1) (hb : DE X G r1 b (.int j) r2) : DT X G r (.Compare a [.Lt] [b] pos) (decide (i < j)) r2 := tCmpE op_lt (nomark _) (cmpI rfl) ha (dr hb)
theorem tLe (ha : DE X G r a (.int i) r1) (hb : DE X G r1 b (.int j) r2) : DT X G r (.Compare a [.LtE] [b] pos) (decide (i ≤ j)) r2 := tCmpE op_le (nomark _) (cmpI rfl) ha (dr hb)
theorem tGt (ha : DE X G r a (.int i) r1) (hb : DE X G r1 b (.int j) r2) : DT X G r (.Compare a [.Gt] [b] pos) (decide (j < i)) r2 := tCmpE op_gt (nomark _) (cmpI rfl) ha (dr hb)
theorem tGe (ha : DE X G r a (.int i) r1) (hb : DE X G r1 b (.int j) r2) : DT X G r (.Compare a [.GtE] [b] pos) (decide (j ≤ i)) r2 := tCmpE op_ge (nomark _) (cmpI rfl) ha (dr hb)
/-- scalars -/
def scD : PyData → Bool
  | .int _ => true
  | .str _ => true
  | .bool _ => true
  | _ => false
theorem eqS {k : Bool} (hk : PyData.eqv x y = k) (hs : (match x, y with | .int _, .int _ => true | .str _, .str _ => true | .bool _, .bool _ => true | _, _ => false) = true) :
    ∀ v u H (Q : VK), Dq X.K H v x → Dq X.K H u y → Q (.bl k) H → rEq v u H Q := fun v u H Q hx hy q => by
  subst hk
  cases x <;> cases y <;> simp at hs
  · cases hx; cases hy
    refine ⟨rfl, ?_⟩
    rename_i p q'
    have e : decide (V.bl p = V.bl q') = (p == q') := dec_bl
    rw [e]
    simpa [PyData.eqv] using q
  · cases hx; cases hy
    refine ⟨rfl, ?_⟩
    rename_i p q'
    have e : decide (V.int p = V.int q') = (p == q') := dec_int
    rw [e]
    simpa [PyData.eqv] using q
  · cases hx; cases hy
    refine ⟨rfl, ?_⟩
    rename_i p q'
    have e : decide (V.str p = V.str q') = (p == q') := dec_str
    rw [e]
    simpa [PyData.eqv] using q
/-- equality of data -/
theorem eqD {k : Bool} (hk : PyData.eqv x y = k) (hx : SeqAt.shaped x = true) (hy : SeqAt.shaped y = true) : ∀ v u H (Q : VK), Dq X.K H v x → Dq X.K H u y → Q (.bl k) H → rEqD X.K v u H Q := fun v u H Q h1 h2 q =>
  ⟨x, y, h1.w, h2.w, hx, hy, by rw [hk]; exact q⟩
theorem neD {k : Bool} (hk : (!PyData.eqv x y) = k) (hx : SeqAt.shaped x = true) (hy : SeqAt.shaped y = true) : ∀ v u H (Q : VK), Dq X.K H v x → Dq X.K H u y → Q (.bl k) H → rNeD X.K v u H Q := fun v u H Q h1 h2 q =>
  ⟨x, y, h1.w, h2.w, hx, hy, by rw [hk]; exact q⟩
theorem dEq {k : Bool} (hu : X.A.units + 64 < cLine) (hx : SeqAt.shaped x = true) (hy : SeqAt.shaped y = true) (hk : PyData.eqv x y = k) (ha : DE X G r a x r1) (hb : DR X G r1 b y r2) : DE X G r (.Compare a [.Eq] [b] pos) (.bool k) r2 := dCmpE (op_eqD hu) (nomark _) (eqD hk hx hy) ha hb
theorem dNe {k : Bool} (hu : X.A.units + 64 < cLine) (hx : SeqAt.shaped x = true) (hy : SeqAt.shaped y = true) (hk : (!PyData.eqv x y) = k) (ha : DE X G r a x r1) (hb : DR X G r1 b y r2) : DE X G r (.Compare a [.NotEq] [b] pos) (.bool k) r2 := dCmpE (op_neD hu) (nomark _) (neD hk hx hy) ha hb
theorem tEq {k : Bool} (hu : X.A.units + 64 < cLine) (hx : SeqAt.shaped x = true) (hy : SeqAt.shaped y = true) (hk : PyData.eqv x y = k) (ha : DE X G r a x r1) (hb : DR X G r1 b y r2) : DT X G r (.Compare a [.Eq] [b] pos) k r2 := tCmpE (op_eqD hu) (nomark _) (eqD hk hx hy) ha hb
theorem tNe {k : Bool} (hu : X.A.units + 64 < cLine) (hx : SeqAt.shaped x = true) (hy : SeqAt.shaped y = true) (hk : (!PyData.eqv x y) = k) (ha : DE X G r a x r1) (hb : DR X G r1 b y r2) : DT X G r (.Compare a [.NotEq] [b] pos) k r2 := tCmpE (op_neD hu) (nomark _) (neD hk hx hy) ha hb
theorem dEqI (ha : DE X G r a (.int i) r1) (hb : DE X G r1 b (.int j) r2) : DE X G r (.Compare a [.Eq] [b] pos) (.bool (i == j)) r2 := dCmpE op_eq (nomark _) (eqS rfl rfl) ha (dr hb)
theorem tEqI (ha : DE X G r a (.int i) r1) (hb : DE X G r1 b (.int j) r2) : DT X G r (.Compare a [.Eq] [b] pos) (i == j) r2 := tCmpE op_eq (nomark _) (eqS rfl rfl) ha (dr hb)
theorem dEqS {p q : Str} (ha : DE X G r a (.str p) r1) (hb : DE X G r1 b (.str q) r2) : DE X G r (.Compare a [.Eq] [b] pos) (.bool (p == q)) r2 := dCmpE op_eq (nomark _) (eqS rfl rfl) ha (dr hb)
theorem tEqS {p q : Str} (ha : DE X G r a (.str p) r1) (hb : DE X G r1 b (.str q) r2) : DT X G r (.Compare a [.Eq] [b] pos) (p == q) r2 := tCmpE op_eq (nomark _) (eqS rfl rfl) ha (dr hb)
theorem neI : ∀ v u H (Q : VK), Dq X.K H v (.int i) → Dq X.K H u (.int j) → Q (.bl (!(i == j))) H → rNe v u H Q := fun v u H Q hx hy q => by
  cases hx; cases hy
  refine ⟨rfl, ?_⟩
  rw [show decide (V.int i = V.int j) = (i == j) from dec_int]
  exact q
theorem neS {p q : Str} : ∀ v u H (Q : VK), Dq X.K H v (.str p) → Dq X.K H u (.str q) → Q (.bl (!(p == q))) H → rNe v u H Q := fun v u H Q hx hy q => by
  cases hx; cases hy
  refine ⟨rfl, ?_⟩
  rw [show decide (V.str _ = V.str _) = (_ == _) from dec_str]
  exact q
theorem dNeI (ha : DE X G r a (.int i) r1) (hb : DE X G r1 b (.int j) r2) : DE X G r (.Compare a [.NotEq] [b] pos) (.bool (!(i == j))) r2 := dCmpE op_ne (nomark _) neI ha (dr hb)
theorem tNeI (ha : DE X G r a (.int i) r1) (hb : DE X G r1 b (.int j) r2) : DT X G r (.Compare a [.NotEq] [b] pos) (!(i == j)) r2 := tCmpE op_ne (nomark _) neI ha (dr hb)
theorem dNeS {p q : Str} (ha : DE X G r a (.str p) r1) (hb : DE X G r1 b (.str q) r2) : DE X G r (.Compare a [.NotEq] [b] pos) (.bool (!(p == q))) r2 := dCmpE op_ne (nomark _) neS ha (dr hb)
theorem tNeS {p q : Str} (ha : DE X G r a (.str p) r1) (hb : DE X G r1 b (.str q) r2) : DT X G r (.Compare a [.NotEq] [b] pos) (!(p == q)) r2 := tCmpE op_ne (nomark _) neS ha (dr hb)
/-- is None -/
def isN : PyData → Bool
  | .none => true
  | _ => false
theorem nonV {v : V} {H : Hp} (h : Dq X.K H v x) : decide (v = .non) = isN x := by
  cases h <;> simp [isN]
theorem isND : ∀ v u H (Q : VK), Dq X.K H v x → Dq X.K H u .none → Q (.bl (isN x)) H → (fun (x y : V) (H : Hp) (Q : VK) => y = .non ∧ Q (.bl (decide (x = .non))) H) v u H Q := fun v u H Q hx hy q => by
  cases hy
  exact ⟨rfl, by rw [nonV hx]; exact q⟩
theorem notND : ∀ v u H (Q : VK), Dq X.K H v x → Dq X.K H u .none → Q (.bl (!isN x)) H → (fun (x y : V) (H : Hp) (Q : VK) => y = .non ∧ Q (.bl (!decide (x = .non))) H) v u H Q := fun v u H Q hx hy q => by
  cases hy
  exact ⟨rfl, by rw [nonV hx]; exact q⟩
theorem dIsN {k pos'} (ha : DE X G r a x r1) : DE X G r (.Compare a [.Is] [.Constant .none k pos'] pos) (.bool (isN x)) r1 := dCmpE op_isN (nomark _) isND ha (dr dn)
theorem tIsN' {k pos'} (ha : DE X G r a x r1) : DT X G r (.Compare a [.Is] [.Constant .none k pos'] pos) (isN x) r1 := tCmpE op_isN (nomark _) isND ha (dr dn)
theorem dNotN {k pos'} (ha : DE X G r a x r1) : DE X G r (.Compare a [.IsNot] [.Constant .none k pos'] pos) (.bool (!isN x)) r1 := dCmpE op_notN (nomark _) notND ha (dr dn)
theorem tNotN' {k pos'} (ha : DE X G r a x r1) : DT X G r (.Compare a [.IsNot] [.Constant .none k pos'] pos) (!isN x) r1 := tCmpE op_notN (nomark _) notND ha (dr dn)
/-- x in t, data of any depth -/
def rInT (K : PySem.W.Frag) (neg : Bool) : R2 := fun x y H Q => ∃ d ds, Dq K H x d ∧ (Dq K H y (.list ds) ∨ Dq K H y (.tuple ds)) ∧ SeqAt.shaped d = true ∧ SeqAt.shaped (.list ds) = true ∧ Q (.bl (if neg then !ds.any fun z => PyData.eqv z d else ds.any fun z => PyData.eqv z d)) H
theorem op_inT (hu : X.A.units + 65 < cLine) : OpR X (compareOp .In) (rInT X.K false) := by
  intro pins s σ H x y v u Q I rx ry h
  obtain ⟨d, ds, hd, he, sd, se, q⟩ := h
  obtain ⟨as, r1⟩ := Dq.reads I d x v hd rx
  rcases he with he | he
  · obtain ⟨bs, r2⟩ := Dq.reads I (.list ds) y u he ry
    exact SeqAt.in_list_reads r2 r1 (SeqAt.canLay_of_shaped se) (SeqAt.canLay_of_shaped sd) (room_in_shaped sd hu) ⟨.bl _, H, I, rfl, q⟩
  · obtain ⟨bs, r2⟩ := Dq.reads I (.tuple ds) y u he ry
    exact SeqAt.in_tuple_reads r2 r1 (SeqAt.canLay_of_shaped se) (SeqAt.canLay_of_shaped sd) (room_in_shaped sd hu) ⟨.bl _, H, I, rfl, q⟩
theorem op_notInT (hu : X.A.units + 65 < cLine) : OpR X (compareOp .NotIn) (rInT X.K true) := by
  intro pins s σ H x y v u Q I rx ry h
  obtain ⟨d, ds, hd, he, sd, se, q⟩ := h
  obtain ⟨as, r1⟩ := Dq.reads I d x v hd rx
  rcases he with he | he
  · obtain ⟨bs, r2⟩ := Dq.reads I (.list ds) y u he ry
    exact SeqAt.notIn_list_reads r2 r1 (SeqAt.canLay_of_shaped se) (SeqAt.canLay_of_shaped sd) (room_in_shaped sd hu) ⟨.bl _, H, I, rfl, q⟩
  · obtain ⟨bs, r2⟩ := Dq.reads I (.tuple ds) y u he ry
    exact SeqAt.notIn_tuple_reads r2 r1 (SeqAt.canLay_of_shaped se) (SeqAt.canLay_of_shaped sd) (room_in_shaped sd hu) ⟨.bl _, H, I, rfl, q⟩
theorem inD {k : Bool} {ds : List PyData} (hy : y = .list ds ∨ y = .tuple ds) (sx : SeqAt.shaped x = true) (sy : SeqAt.shaped (.list ds) = true) (hk : (ds.any fun z => PyData.eqv z x) = k) :
    ∀ v u H (Q : VK), Dq X.K H v x → Dq X.K H u y → Q (.bl k) H → rInT X.K false v u H Q := fun v u H Q h1 h2 q =>
  ⟨x, ds, h1, hy.elim (fun e => .inl (e ▸ h2)) (fun e => .inr (e ▸ h2)), sx, sy, by
    rw [if_neg Bool.false_ne_true, hk]; exact q⟩
theorem notInD {k : Bool} {ds : List PyData} (hy : y = .list ds ∨ y = .tuple ds) (sx : SeqAt.shaped x = true) (sy : SeqAt.shaped (.list ds) = true) (hk : (!ds.any fun z => PyData.eqv z x) = k) :
    ∀ v u H (Q : VK), Dq X.K H v x → Dq X.K H u y → Q (.bl k) H → rInT X.K true v u H Q := fun v u H Q h1 h2 q =>
  ⟨x, ds, h1, hy.elim (fun e => .inl (e ▸ h2)) (fun e => .inr (e ▸ h2)), sx, sy, by
    rw [if_pos rfl, hk]; exact q⟩
theorem dIn {k : Bool} {ds : List PyData} (hu : X.A.units + 65 < cLine) (hy : y = .list ds ∨ y = .tuple ds) (sx : SeqAt.shaped x = true) (sy : SeqAt.shaped (.list ds) = true) (hk : (ds.any fun z => PyData.eqv z x) = k)
    (ha : DE X G r a x r1) (hb : DE X G r1 b y r2) (hm : behindInMarks .In b = false := by rfl) : DE X G r (.Compare a [.In] [b] pos) (.bool k) r2 := dCmpE (op_inT hu) hm (inD hy sx sy hk) ha (dr hb)
theorem tIn {k : Bool} {ds : List PyData} (hu : X.A.units + 65 < cLine) (hy : y = .list ds ∨ y = .tuple ds) (sx : SeqAt.shaped x = true) (sy : SeqAt.shaped (.list ds) = true) (hk : (ds.any fun z => PyData.eqv z x) = k)
    (ha : DE X G r a x r1) (hb : DE X G r1 b y r2) (hm : behindInMarks .In b = false := by rfl) : DT X G r (.Compare a [.In] [b] pos) k r2 := tCmpE (op_inT hu) hm (inD hy sx sy hk) ha (dr hb)
theorem tNotIn {k : Bool} {ds : List PyData} (hu : X.A.units + 65 < cLine) (hy : y = .list ds ∨ y = .tuple ds) (sx : SeqAt.shaped x = true) (sy : SeqAt.shaped (.list ds) = true) (hk : (!ds.any fun z => PyData.eqv z x) = k)
    (ha : DE X G r a x r1) (hb : DE X G r1 b y r2) (hm : behindInMarks .NotIn b = false := by rfl) : DT X G r (.Compare a [.NotIn] [b] pos) k r2 := tCmpE (op_notInT hu) hm (notInD hy sx sy hk) ha (dr hb)
/-- low <= x <= high -/
theorem chLe {k2 : Int} : ∀ (M : List Addr) (σ : L2.St) (H : Hp) (Q : VK) (hc : ∀ w H', Ok X.K G M r3 σ H' → Same (msk M H) (msk M H') → Dq X.K (msk M H') w (.bool (decide (i ≤ j) && decide (j ≤ k2))) → Q w H') (o : Ok X.K G M r σ H) (e1 : r1 = r) (e2 : r2 = r) (e3 : r3 = r),
    tChain (rI0 fun i j => .bl (decide (i ≤ j))) (rI0 fun i j => .bl (decide (i ≤ j))) (tE X.K G r (.int i) r1) (tE X.K G r1 (.int j) r2) (tE X.K G r2 (.int k2) r3) σ H Q := by
  intro M σ H Q hc o e1 e2 e3
  subst e1 e2 e3
  refine ⟨M, o, fun v H1 o1 s1 dx => ⟨M, o1, fun u H2 o2 s2 dy => ?_⟩⟩
  cases dx; cases dy
  refine ⟨i, j, rfl, rfl, _, rfl, ?_⟩
  by_cases h : i ≤ j
  · rw [decide_eq_true h, if_pos rfl]
    refine ⟨M, o2, fun w H3 o3 s3 dz => ?_⟩
    cases dz
    refine ⟨j, k2, rfl, rfl, hc _ H3 o3 (Same.trans (Same.trans s1 s2) s3) ?_⟩
    rw [decide_eq_true h, Bool.true_and]
    exact .bl _
  · rw [decide_eq_false h, if_neg Bool.false_ne_true]
    refine hc _ H2 o2 (Same.trans s1 s2) ?_
    rw [decide_eq_false h, Bool.false_and]
    exact .bl _
theorem dChLe {k2 : Int} (ha : DE X G r a (.int i) r) (hb : DE X G r b (.int j) r) (hc : DE X G r c (.int k2) r) (hm : lastMarks [.LtE, .LtE] [b, c] = false := by with_unfolding_all rfl) :
    DE X G r (.Compare a [.LtE, .LtE] [b, c] pos) (.bool (decide (i ≤ j) && decide (j ≤ k2))) r :=
  pe_imp (pe_chain op_le op_le ha hb hc hm) fun σ H Q ⟨M, o, q⟩ => chLe M σ H Q q o rfl rfl rfl

/-! ### tests -/
theorem tV {k : Bool} (h : DE X G r e (.bool k) r1) (he : ∀ whole, isTrue e X.env whole = (do let v ← whole; standAt e.pos; holding [v] (truthy v)) := by intro _; rfl) : DT X G r e k r1 :=
  pt_imp (pt_val h he) fun σ H Q ⟨M, o, q⟩ => ⟨M, o, fun v H1 o1 s1 dx => by
    cases dx
    exact ⟨k, rfl, q H1 o1 s1⟩⟩
theorem tNot' {k : Bool} (h : DT X G r e k r1) : DT X G r (.UnaryOp .Not e pos) (!k) r1 :=
  pt_imp (pt_not h) fun σ H Q ⟨M, o, q⟩ => ⟨M, o, fun H1 o1 s1 => q H1 o1 s1⟩
theorem dNot {k : Bool} (h : DE X G r e (.bool k) r1) : DE X G r (.UnaryOp .Not e pos) (.bool (!k)) r1 :=
  pe_imp (pe_not h) fun σ H Q ⟨M, o, q⟩ => ⟨M, o, fun v H1 o1 s1 dx => by
    cases dx
    exact ⟨k, rfl, q _ H1 o1 s1 (.bl _)⟩⟩
/-- an expression that isn't come to -/
theorem pe_never {e : Expr} : PE X e (fun _ _ _ => False) := ⟨fun _ _ _ _ _ _ h => h.elim⟩
theorem pt_never {e : Expr} : PT X e (fun _ _ _ => False) := ⟨fun _ _ _ _ _ _ h => h.elim⟩
theorem pw_never {e : Expr} : PW X e (fun _ _ _ => False) := ⟨fun _ _ _ _ _ _ _ h => h.elim⟩
abbrev DW (X : Cx) (G : Fr0) (r : Rho) (e : Expr) (c : Bool) (r' : Rho) : Prop := PW X e (tT X.K G r c r')
variable {rest : List Expr} {k l : Bool}
theorem wAnd1 (h : DT X G r a k r1) : DW X G r (.BoolOp .And [a] pos) k r1 := pw_and1 h
theorem wOr1 (h : DT X G r a k r1) : DW X G r (.BoolOp .Or [a] pos) k r1 := pw_or1 h
theorem wAnd (h : DT X G r a k r1) (h2 : k = true → DW X G r1 (.BoolOp .And (b :: rest) pos) l r1) : DW X G r (.BoolOp .And (a :: b :: rest) pos) (k && l) r1 := by
  cases k with
  | true => exact pw_imp (pw_and h (h2 rfl)) fun σ H Q ⟨M, o, q⟩ => ⟨M, o, fun H1 o1 s1 => by
      refine iteT ?_
      exact ⟨M, o1, fun H2 o2 s2 => q H2 o2 (Same.trans s1 s2)⟩⟩
  | false => exact pw_imp (pw_and h pw_never) fun σ H Q ⟨M, o, q⟩ => ⟨M, o, fun H1 o1 s1 => by
      refine iteF ?_
      exact q H1 o1 s1⟩
theorem wOr (h : DT X G r a k r1) (h2 : k = false → DW X G r1 (.BoolOp .Or (b :: rest) pos) l r1) : DW X G r (.BoolOp .Or (a :: b :: rest) pos) (k || l) r1 := by
  cases k with
  | false => exact pw_imp (pw_or h (h2 rfl)) fun σ H Q ⟨M, o, q⟩ => ⟨M, o, fun H1 o1 s1 => by
      refine iteF ?_
      exact ⟨M, o1, fun H2 o2 s2 => q H2 o2 (Same.trans s1 s2)⟩⟩
  | true => exact pw_imp (pw_or h pw_never) fun σ H Q ⟨M, o, q⟩ => ⟨M, o, fun H1 o1 s1 => by
      refine iteT ?_
      exact q H1 o1 s1⟩
theorem tW (h : DW X G r e k r1) : DT X G r e k r1 := h.pt
theorem dOne {op} (h : DE X G r a x r1) : DE X G r (.BoolOp op [a] pos) x r1 := pe_one h
theorem dAnd (h : DE X G r a (.bool k) r1) (h2 : k = true → DE X G r1 (.BoolOp .And (b :: rest) pos) (.bool l) r1) : DE X G r (.BoolOp .And (a :: b :: rest) pos) (.bool (k && l)) r1 := by
  cases k with
  | true => exact pe_imp (pe_and h (h2 rfl)) fun σ H Q ⟨M, o, q⟩ => ⟨M, o, fun v H1 o1 s1 dx => by
      cases dx
      refine ⟨true, rfl, ?_⟩
      refine iteT ?_
      exact ⟨M, o1, fun w H2 o2 s2 dy => q w H2 o2 (Same.trans s1 s2) dy⟩⟩
  | false => exact pe_imp (pe_and h pe_never) fun σ H Q ⟨M, o, q⟩ => ⟨M, o, fun v H1 o1 s1 dx => by
      cases dx
      refine ⟨false, rfl, ?_⟩
      refine iteF ?_
      exact q _ H1 o1 s1 (.bl _)⟩
theorem dOr (h : DE X G r a (.bool k) r1) (h2 : k = false → DE X G r1 (.BoolOp .Or (b :: rest) pos) (.bool l) r1) : DE X G r (.BoolOp .Or (a :: b :: rest) pos) (.bool (k || l)) r1 := by
  cases k with
  | false => exact pe_imp (pe_or h (h2 rfl)) fun σ H Q ⟨M, o, q⟩ => ⟨M, o, fun v H1 o1 s1 dx => by
      cases dx
      refine ⟨false, rfl, ?_⟩
      refine iteF ?_
      exact ⟨M, o1, fun w H2 o2 s2 dy => q w H2 o2 (Same.trans s1 s2) dy⟩⟩
  | true => exact pe_imp (pe_or h pe_never) fun σ H Q ⟨M, o, q⟩ => ⟨M, o, fun v H1 o1 s1 dx => by
      cases dx
      refine ⟨true, rfl, ?_⟩
      refine iteT ?_
      exact q _ H1 o1 s1 (.bl _)⟩
/-- a if t else b -/
theorem dIf (hc : DT X G r c k r1) (ha : k = true → DE X G r1 a x r2) (hb : k = false → DE X G r1 b y r2) : DE X G r (.IfExp c a b pos) (if k = true then x else y) r2 := by
  cases k with
  | true => exact pe_imp (pe_ifExp hc (ha rfl) pe_never) fun σ H Q ⟨M, o, q⟩ => ⟨M, o, fun H1 o1 s1 => by
      refine iteT ?_
      exact ⟨M, o1, fun w H2 o2 s2 dy => q w H2 o2 (Same.trans s1 s2) dy⟩⟩
  | false => exact pe_imp (pe_ifExp hc pe_never (hb rfl)) fun σ H Q ⟨M, o, q⟩ => ⟨M, o, fun H1 o1 s1 => by
      refine iteF ?_
      exact ⟨M, o1, fun w H2 o2 s2 dy => q w H2 o2 (Same.trans s1 s2) dy⟩⟩
/-- the same with one datum said for both -/
theorem dIf' (hc : DT X G r c k r1) (ha : k = true → DE X G r1 a x r2) (hb : k = false → DE X G r1 b x r2) : DE X G r (.IfExp c a b pos) x r2 := by
  have h := dIf (pos := pos) hc ha hb
  rwa [ite_self] at h
theorem dTo (h : DE X G r e x r1) (hx : x = y) : DE X G r e y r1 := hx ▸ h
theorem tTo (h : DT X G r e k r1) (hx : k = l) : DT X G r e l r1 := hx ▸ h

/-! ### displays -/
theorem aN : DA X G r [] [] r := pa_imp pa_nil fun σ H Q ⟨M, o, q⟩ => q _ H o (fun _ _ z => z) .nil
theorem aC (h : DE X G r e x r1) (h2 : DA X G r1 es xs r2) (hs : starEach (e :: es) X.env = (false, eval e X.env) :: starEach es X.env := by rfl) : DA X G r (e :: es) (x :: xs) r2 :=
  pa_imp (pa_cons h h2 hs) fun σ H Q ⟨M, o, q⟩ => ⟨M, o, fun v H1 o1 s1 dx => ⟨M, o1, fun vs H2 o2 s2 dy => q _ H2 o2 (Same.trans s1 s2) (.cons (dp_mono s2 _ _ dx) dy)⟩⟩
theorem dTup {x1} (hl : xs.length ≤ sizeLine) (h : DA X G r es xs r1) : DE X G r (.Tuple es x1 pos) (.tuple xs) r1 :=
  pe_imp (pe_tupX h) fun σ H Q ⟨M, o, q⟩ => ⟨M, o, fun vs H1 o1 s1 dx => ⟨by rw [dpa_length dx]; exact hl, fun p o hp ho =>
    q _ _ (o1.laid hp) (Same.trans s1 (msk_grow (same_new hp))) (.tup (SqX.of (msk_new o1 hp) ho) (dpa_mono (msk_grow (same_new hp)) _ _ dx))⟩⟩
theorem dLst (hl : xs.length ≤ sizeLine) (h : DA X G r es xs r1) : DE X G r (.List es pos) (.list xs) r1 :=
  pe_imp (pe_lst h) fun σ H Q ⟨M, o, q⟩ => ⟨M, o, fun vs H1 o1 s1 dx => ⟨by rw [dpa_length dx]; exact hl, fun p hp =>
    q _ _ (o1.laid hp) (Same.trans s1 (msk_grow (same_new hp))) (.lst (SqL.of (msk_new o1 hp)) (dpa_mono (msk_grow (same_new hp)) _ _ dx))⟩⟩
theorem dTup2 {x1} (h : DA X G r es [x, y] r1) : DE X G r (.Tuple es x1 pos) (.tuple [x, y]) r1 := dTup (by show 2 ≤ sizeLine; decide) h
theorem dTup3 {x1} (h : DA X G r es [x, y, z] r1) : DE X G r (.Tuple es x1 pos) (.tuple [x, y, z]) r1 := dTup (by show 3 ≤ sizeLine; decide) h
theorem dTup4 {x1} {w : PyData} (h : DA X G r es [x, y, z, w] r1) : DE X G r (.Tuple es x1 pos) (.tuple [x, y, z, w]) r1 := dTup (by show 4 ≤ sizeLine; decide) h
theorem dTup0 {x1} : DE X G r (.Tuple [] x1 pos) (.tuple []) r := dTup (by show 0 ≤ sizeLine; decide) aN
theorem dLst0 : DE X G r (.List [] pos) (.list []) r := dLst (by show 0 ≤ sizeLine; decide) aN

/-! ### subscripts -/
theorem dpa_atI {K : PySem.W.Frag} {H : Hp} {ds : List PyData} {vs : List V} {d : PyData} (h : DqAll K H vs ds) {i : Int} (e : atI ds i = some d) : ∃ v, atI vs i = some v ∧ Dq K H v d := by
  unfold atI at e ⊢
  rw [dpa_length h]
  cases q : ixN ds.length i with
  | none => rw [q] at e; cases e
  | some j =>
    rw [q] at e
    exact dpa_get h e
theorem dIxT (he : atI xs i = some x) (ha : DE X G r a (.tuple xs) r1) (hb : DE X G r1 b (.int i) r2) (hs : PlainIx b := by exact fun _ _ => rfl) : DE X G r (.Subscript a b pos) x r2 :=
  pe_imp (pe_ix ix_tup ha hb hs) fun σ H Q ⟨M, o, q⟩ => ⟨M, o, fun v H1 o1 s1 dx => ⟨M, o1, fun u H2 o2 s2 dy => by
    have dx := dp_mono s2 _ _ dx
    cases dy
    cases dx with
    | tup hs ha =>
      obtain ⟨w, e1, e2⟩ := dpa_atI ha he
      exact ⟨_, _, i, w, rfl, rfl, (hs.mono msk_le).t, e1, q w H2 o2 (Same.trans s1 s2) e2⟩⟩⟩
theorem dIxL (he : atI xs i = some x) (ha : DE X G r a (.list xs) r1) (hb : DE X G r1 b (.int i) r2) (hs : PlainIx b := by exact fun _ _ => rfl) : DE X G r (.Subscript a b pos) x r2 :=
  pe_imp (pe_ix ix_list ha hb hs) fun σ H Q ⟨M, o, q⟩ => ⟨M, o, fun v H1 o1 s1 dx => ⟨M, o1, fun u H2 o2 s2 dy => by
    have dx := dp_mono s2 _ _ dx
    cases dy
    cases dx with
    | lst hs ha =>
      obtain ⟨w, e1, e2⟩ := dpa_atI ha he
      exact ⟨_, _, i, w, rfl, rfl, Same.seq msk_le hs, e1, q w H2 o2 (Same.trans s1 s2) e2⟩⟩⟩
/-- an item of a list that may be changed -/
theorem dIxM (n : Nat) {nm : Str} {np : Pos} {ow : Bool} (he : atI xs i = some x) (hb : DE X G r b (.int i) r) (hr : r[n]? = some (Sv.m ow xs) := by rfl) (hN : X.N[n]? = some nm := by rfl) (hv : Vis X.env.scope nm := by first | exact Or.inl rfl | exact Or.inr (Or.inl rfl) | exact Or.inr (Or.inr rfl))
    (hs : PlainIx b := by exact fun _ _ => rfl) (hd : (nm == ("__debug__" : Str)) = false := by decide) (hcd : (nm == ("__classdict__" : Str)) = false := by decide) : DE X G r (.Subscript (.Name nm np) b pos) x r :=
  pe_imp (pe_ix ix_list (pe_var hN hv hd hcd) hb hs) fun σ H Q ⟨M, o, q⟩ => by
    obtain ⟨p, vs, e1, e2, e3, e4, _⟩ := o.mv n ow xs hr
    refine ⟨_, e1, M, o, fun u H2 o2 s2 dy => ?_⟩
    obtain ⟨p', vs', f1, f2, f3, f4, _⟩ := o2.mv n ow xs hr
    rw [e1] at f1
    cases f1
    cases dy
    obtain ⟨w, g1, g2⟩ := dpa_atI f4 he
    exact ⟨_, _, i, w, rfl, rfl, SqL.of f3, g1, q w H2 o2 s2 g2⟩
/-! ### slices -/
abbrev tP (K : PySem.W.Frag) (G : Fr0) (r : Rho) (p : Option Int) (r' : Rho) : TO := fun σ H Q => ∃ M, Ok K G M r σ H ∧ ∀ H', Ok K G M r' σ H' → Same (msk M H) (msk M H') → Q p H'
abbrev DO (X : Cx) (G : Fr0) (r : Rho) (e : Option Expr) (p : Option Int) (r' : Rho) : Prop := PO X e (tP X.K G r p r')
theorem po_imp {e : Option Expr} {t t' : TO} (h : PO X e t) (i : ∀ σ H Q, t' σ H Q → t σ H Q) : PO X e t' := ⟨fun pins s σ H Q I q => h.run pins s σ H Q I (i σ H Q q)⟩
theorem oN : DO X G r none none r := po_imp po_none fun σ H Q ⟨M, o, q⟩ => q H o fun _ _ z => z
theorem oS (h : DE X G r e (.int i) r1) : DO X G r (some e) (some i) r1 := po_imp (po_some h) fun σ H Q ⟨M, o, q⟩ => ⟨M, o, fun v H1 o1 s1 dx => by
  cases dx
  exact ⟨i, rfl, q H1 o1 s1⟩⟩
/-- xs[lo:hi] -/
def cut {α : Type} (xs : List α) (lo hi : Option Int) : List α := (xs.drop (HT.sIx xs.length 0 lo)).take (HT.sIx xs.length xs.length hi - HT.sIx xs.length 0 lo)
theorem dpa_cut {K : PySem.W.Frag} {H : Hp} {ds : List PyData} {vs : List V} (h : DqAll K H vs ds) (lo hi : Option Int) : DqAll K H (cutV vs lo hi) (cut ds lo hi) := by
  unfold cutV cut
  rw [dpa_length h]
  exact dpa_take _ (dpa_drop _ h)
theorem cut_all {α : Type} {xs : List α} {lo hi : Option Int} (h : HT.sIx xs.length 0 lo = 0 ∧ HT.sIx xs.length xs.length hi = xs.length) : cut xs lo hi = xs := by
  unfold cut
  rw [h.1, h.2]
  simp
variable {lo hi : Option Expr} {pl ph : Option Int} {p2 : Pos}
theorem dSlT (ha : DE X G r a (.tuple xs) r1) (hl : DO X G r1 lo pl r1) (hh : DO X G r1 hi ph r1) : DE X G r (.Subscript a (.Slice lo hi none p2) pos) (.tuple (cut xs pl ph)) r1 :=
  pe_imp (pe_slice sl_tupX ha hl hh) fun σ H Q ⟨M, o, q⟩ => ⟨M, o, fun v H1 o1 s1 dx => ⟨M, o1, fun H2 o2 s2 => ⟨M, o2, fun H3 o3 s3 => by
    have dx := dp_mono s3 _ _ (dp_mono s2 _ _ dx)
    have s := Same.trans (Same.trans s1 s2) s3
    cases dx with
    | @tup p vs _ hs ha =>
      refine ⟨p, vs, rfl, (hs.mono msk_le).t, fun hw => ?_, fun hw p o hp ho => ?_⟩
      · rw [dpa_length ha] at hw
        have e := cut_all hw
        exact q _ H3 o3 s (by rw [e]; exact .tup hs ha)
      · exact q _ _ (o3.laid hp) (Same.trans s (msk_grow (same_new hp))) (.tup (SqX.of (msk_new o3 hp) ho) (dpa_mono (msk_grow (same_new hp)) _ _ (dpa_cut ha pl ph)))⟩⟩⟩
theorem dSlL (ha : DE X G r a (.list xs) r1) (hl : DO X G r1 lo pl r1) (hh : DO X G r1 hi ph r1) : DE X G r (.Subscript a (.Slice lo hi none p2) pos) (.list (cut xs pl ph)) r1 :=
  pe_imp (pe_slice sl_list ha hl hh) fun σ H Q ⟨M, o, q⟩ => ⟨M, o, fun v H1 o1 s1 dx => ⟨M, o1, fun H2 o2 s2 => ⟨M, o2, fun H3 o3 s3 => by
    have dx := dp_mono s3 _ _ (dp_mono s2 _ _ dx)
    have s := Same.trans (Same.trans s1 s2) s3
    cases dx with
    | @lst p vs _ hs ha =>
      exact ⟨p, vs, rfl, Same.seq msk_le hs, fun p hp => q _ _ (o3.laid hp) (Same.trans s (msk_grow (same_new hp))) (.lst (SqL.of (msk_new o3 hp)) (dpa_mono (msk_grow (same_new hp)) _ _ (dpa_cut ha pl ph)))⟩⟩⟩⟩
/-! ### sums of sequences -/
theorem dCatT (hz : xs.length + ys.length ≤ sizeLine) (ha : DE X G r a (.tuple xs) r1) (hb : DE X G r1 b (.tuple ys) r2) : DE X G r (.BinOp a .Add b pos) (.tuple (xs ++ ys)) r2 :=
  pe_imp (pe_op op_catX ha hb) fun σ H Q ⟨M, o, q⟩ => ⟨M, o, fun v H1 o1 s1 dx => ⟨M, o1, fun u H2 o2 s2 dy => by
    have dx := dp_mono s2 _ _ dx
    have s := Same.trans s1 s2
    cases dx with
    | @tup p vs _ hs ha =>
      cases dy with
      | @tup p' ws _ hs' hb =>
        refine ⟨p, p', vs, ws, rfl, rfl, (hs.mono msk_le).t, (hs'.mono msk_le).t, by rw [dpa_length ha, dpa_length hb]; exact hz, fun e => ?_, fun e e2 => ?_, fun e e2 q' o hp ho => ?_⟩
        · subst e
          cases ha
          exact q _ H2 o2 s (.tup hs' hb)
        · subst e2
          cases hb
          exact q _ H2 o2 s (by rw [List.append_nil]; exact .tup hs ha)
        · exact q _ _ (o2.laid hp) (Same.trans s (msk_grow (same_new hp))) (.tup (SqX.of (msk_new o2 hp) ho) (dpa_mono (msk_grow (same_new hp)) _ _ (dpa_append ha hb)))⟩⟩
/-- list + list, wherever they stand -/
def rCatS (K : PySem.W.Frag) : R2 := fun x y H Q => ∃ l b xs zs, x = .ref l ∧ y = .ref b ∧ SqL K H l xs ∧ SqL K H b zs ∧ xs.length + zs.length ≤ sizeLine ∧ ∀ p, H p = none → Q (.ref p) (upd H p (.lst (xs ++ zs)))
end
end DL
end Sec_D2
section Sec_D3
set_option maxRecDepth 100000
/-! The data layer 3: statements, loops, comprehensions. -/
namespace DL
open PySem PySem.Spec PyProof.Rows L2
section
variable {X : Cx} {G : Fr0} {r r1 r2 r3 r' : Rho} {a b c e : Expr} {es : List Expr} {pos : Pos} {i j : Int} {x y z : PyData} {xs ys : List PyData} {st : Stmt} {sts rest : List Stmt} {o : Out} {k : Bool} {ts us : List Nat}
theorem pg_imp {tg : Expr} {t t' : TG} (h : PG X tg t) (i : ∀ v σ H Q, t' v σ H Q → t v σ H Q) : PG X tg t' := ⟨fun pins s σ H v u Q I rv q => h.run pins s σ H v u Q I rv (i v σ H Q q)⟩
theorem pgs_imp {tg : List Expr} {t t' : TGs} (h : PGs X tg t) (i : ∀ v σ H Q, t' v σ H Q → t v σ H Q) : PGs X tg t' := ⟨fun pins s σ H v u Q I rv q => h.run pins s σ H v u Q I rv (i v σ H Q q)⟩

/-! ### blocks -/
theorem bN : DB X G r [] (.nx r) := pss_imp pss_nil fun D σ H ⟨M, o, q⟩ => q M σ H o fun _ _ z => z
theorem b1 (h : DS X G r st o) : DB X G r [st] o := pss_one h
theorem bC (h : DS X G r st (.nx r1)) (h2 : DB X G r1 rest o) : DB X G r (st :: rest) o :=
  pss_imp (pss_cons h h2) fun D σ H hq => by
    cases o with
    | nx r2 =>
      obtain ⟨M, o, q⟩ := hq
      exact ⟨M, o, fun M1 σ1 H1 o1 s1 => ⟨M1, o1, fun M2 σ2 H2 o2 s2 => q M2 σ2 H2 o2 (Same.trans s1 s2)⟩⟩
    | rt x r2 =>
      obtain ⟨M, o, q⟩ := hq
      exact ⟨M, o, fun M1 σ1 H1 o1 s1 => ⟨M1, o1, q⟩⟩
    | fr xs =>
      obtain ⟨M, o, q⟩ := hq
      exact ⟨M, o, fun M1 σ1 H1 o1 s1 => ⟨M1, o1, q⟩⟩
theorem bR {bg : List PyData} (h : DS X G r st (.rt x bg)) : DB X G r (st :: rest) (.rt x bg) :=
  pss_imp (pss_cons h pss_never) fun D σ H ⟨M, o, q⟩ => ⟨M, o, q⟩
/-- what a branch does ahead of the rest of its block -/
def Br (X : Cx) (G : Fr0) (r : Rho) (br rest : List Stmt) (o : Out) : Prop := (∃ r1, DB X G r br (.nx r1) ∧ DB X G r1 rest o) ∨ ∃ x b, o = .rt x b ∧ DB X G r br (.rt x b)
theorem brN (h : DB X G r sts (.nx r1)) (h2 : DB X G r1 rest o) : Br X G r sts rest o := .inl ⟨r1, h, h2⟩
theorem brR {bg : List PyData} (h : DB X G r sts (.rt x bg)) : Br X G r sts rest (.rt x bg) := .inr ⟨x, bg, rfl, h⟩
theorem br0 (h : DB X G r rest o) : Br X G r [] rest o := brN bN h
theorem bIf {A B : List Stmt} (hc : DT X G r c k r1) (hA : k = true → Br X G r1 A rest o) (hB : k = false → Br X G r1 B rest o) : DB X G r (.If c A B pos :: rest) o := by
  cases k with
  | true =>
    rcases hA rfl with ⟨r2, h1, h2⟩ | ⟨x, r2, rfl, h1⟩
    · refine bC (r1 := r2) (ps_imp (ps_if hc h1 pss_never) fun D σ H ⟨M, o, q⟩ => ⟨M, o, fun H1 o1 s1 => iteT ?_⟩) h2
      exact ⟨M, o1, fun M2 σ2 H2 o2 s2 => q M2 σ2 H2 o2 (Same.trans s1 s2)⟩
    · refine bR (ps_imp (ps_if hc h1 pss_never) fun D σ H ⟨M, o, q⟩ => ⟨M, o, fun H1 o1 s1 => iteT ?_⟩)
      exact ⟨M, o1, q⟩
  | false =>
    rcases hB rfl with ⟨r2, h1, h2⟩ | ⟨x, r2, rfl, h1⟩
    · refine bC (r1 := r2) (ps_imp (ps_if hc pss_never h1) fun D σ H ⟨M, o, q⟩ => ⟨M, o, fun H1 o1 s1 => iteF ?_⟩) h2
      exact ⟨M, o1, fun M2 σ2 H2 o2 s2 => q M2 σ2 H2 o2 (Same.trans s1 s2)⟩
    · refine bR (ps_imp (ps_if hc pss_never h1) fun D σ H ⟨M, o, q⟩ => ⟨M, o, fun H1 o1 s1 => iteF ?_⟩)
      exact ⟨M, o1, q⟩
theorem bTo {o' : Out} (h : DB X G r sts o) (e : o = o') : DB X G r sts o' := e ▸ h
/-- a list that was changed is from now on a datum -/
theorem bFz {i : Nat} {xs : List PyData} (hr : r[i]? = some (Sv.m true xs)) (h : DB X G (r.set i (.d (.list xs))) sts o) : DB X G r sts o :=
  pss_imp h fun D σ H hq => by
    have key : ∀ M, Ok X.K G M r σ H → ∃ M', Ok X.K G M' (r.set i (.d (.list xs))) σ H ∧ Same (msk M H) (msk M' H) := by
      intro M o
      obtain ⟨p, vs, e1, e2, e3, e4, eL, e5, _⟩ := o.mv i true xs hr
      have hp := e5 rfl
      have sb : ∀ a ∈ M.filter (· ≠ p), a ∈ M := fun a ha => (List.mem_filter.mp ha).1
      have ms : Same (msk M H) (msk (M.filter (· ≠ p)) H) := msk_sub sb
      have pn : p ∉ M.filter (· ≠ p) := fun z => by simpa using (List.mem_filter.mp z).2
      have il : i < r.length := by
        rcases Nat.lt_or_ge i r.length with z | z
        · exact z
        · rw [List.getElem?_eq_none z] at hr; cases hr
      refine ⟨M.filter (· ≠ p), ⟨fun a ha => ?_, fun a ha => o.new a (sb a ha), fun a ha => o.dom a (sb a ha), o.fr, by simp [o.len], fun j y e => ?_, fun j ow zs e => ?_, fun j l ow zs ow' ys a f1 f2 f3 f4 => ?_, o.wm, fun a ha => ⟨List.mem_filter.mpr ⟨(o.lk a ha).1, by
        have : a ≠ p := fun z => eL (z ▸ ha)
        simpa using this⟩, (o.lk a ha).2⟩, fun j kvs e => ?_⟩, ms⟩
      · refine List.mem_filter.mpr ⟨o.sub a ha, ?_⟩
        have : a ≠ p := fun z => hp (z ▸ ha)
        simpa using this
      · by_cases hj : i = j
        · subst hj
          rw [List.getElem?_set_self il] at e
          cases e
          refine ⟨_, e1, .lst (SqL.of ?_) (dpa_mono ms _ _ e4)⟩
          rw [msk_out pn]
          exact e3
        · rw [List.getElem?_set_ne hj] at e
          obtain ⟨v, f1, f2⟩ := o.sv j y e
          exact ⟨v, f1, dp_mono ms _ _ f2⟩
      · by_cases hj : i = j
        · subst hj
          rw [List.getElem?_set_self il] at e
          cases e
        · rw [List.getElem?_set_ne hj] at e
          obtain ⟨a, ws, f1, f2, f3, f4, f5⟩ := o.mv j ow zs e
          refine ⟨a, ws, f1, List.mem_filter.mpr ⟨f2, ?_⟩, f3, dpa_mono ms _ _ f4, f5⟩
          have : a ≠ p := fun z => by
            subst z
            exact hj (o.inj i j _ _ _ _ a hr e e1 f1)
          simpa using this
      · have n1 : i ≠ j := fun h => by
          subst h
          rw [List.getElem?_set_self il] at f1; cases f1
        have n2 : i ≠ l := fun h => by
          subst h
          rw [List.getElem?_set_self il] at f2; cases f2
        rw [List.getElem?_set_ne n1] at f1
        rw [List.getElem?_set_ne n2] at f2
        exact o.inj j l _ _ _ _ a f1 f2 f3 f4
      · by_cases hj : i = j
        · subst hj
          rw [List.getElem?_set_self il] at e; cases e
        · rw [List.getElem?_set_ne hj] at e
          obtain ⟨a, f1, f2⟩ := o.tv j kvs e
          exact ⟨a, f1, ms _ _ f2⟩
    cases o with
    | nx r2 =>
      obtain ⟨M, o, q⟩ := hq
      obtain ⟨M', o', s'⟩ := key M o
      exact ⟨M', o', fun M2 σ2 H2 o2 s2 => q M2 σ2 H2 o2 (Same.trans s' s2)⟩
    | rt x r2 =>
      obtain ⟨M, o, q⟩ := hq
      obtain ⟨M', o', s'⟩ := key M o
      exact ⟨M', o', q⟩
    | fr xs =>
      obtain ⟨M, o, q⟩ := hq
      obtain ⟨M', o', s'⟩ := key M o
      exact ⟨M', o', q⟩

/-! ### small statements -/
theorem sRet {bg : List PyData} (h : DE X G r e x r1) (hb : bagOf r1 = bg := by rfl) : DS X G r (.Return (some e) pos) (.rt x bg) :=
  ps_imp (ps_ret h) fun D σ H ⟨M, o, q⟩ => ⟨M, o, fun v H1 o1 s1 dx => q M v r1 σ H1 o1 hb (dp_mono (msk_sub o1.sub) _ _ dx)⟩
theorem sRet' {bg : List PyData} (h : DE X G r e y r1) (hy : y = x) (hb : bagOf r1 = bg := by rfl) : DS X G r (.Return (some e) pos) (.rt x bg) := sRet (hy ▸ h) hb
/-- a new list is handed back -/
theorem sRetL {lp : Pos} (hl : xs.length ≤ sizeLine) (h : DA X G r es xs r1) : DS X G r (.Return (some (.List es lp)) pos) (.fr xs) :=
  ps_imp (ps_ret (pe_lst h)) fun D σ H ⟨M, o, q⟩ => ⟨M, o, fun vs H1 o1 s1 dx => ⟨by rw [dpa_length dx]; exact hl, fun p hp => by
    have pM := o1.nin hp
    have pM0 : p ∉ G.M0 := fun z => pM (o1.sub p z)
    have ms : Same (msk M H1) (msk (p :: G.M0) (upd H1 p (.lst vs))) := fun b u e => by
      obtain ⟨h1, h2⟩ := msk_some e
      have hb : b ≠ p := fun z => by rw [z, hp] at h2; cases h2
      rw [msk_out (by simp [hb]; exact fun z => h1 (o1.sub b z)), upd_ne hb]; exact h2
    refine q M p vs r1 σ _ (o1.laid hp) ?_ pM0 upd_same (dpa_mono ms _ _ dx)
    cases q2 : G.H0 p with
    | none => rfl
    | some u =>
      have := o1.fr p u (fun z => pM0 (o1.wm p z)) q2
      rw [hp] at this; cases this⟩⟩
theorem sExpr (h : DE X G r e x r1) (hs : swapsWith e none pos.line X.env = pure false := by rfl) : DS X G r (.Expr e pos) (.nx r1) :=
  ps_imp (ps_expr h hs) fun D σ H ⟨M, o, q⟩ => ⟨M, o, fun v H1 o1 s1 dx => q M σ H1 o1 s1⟩
theorem sPass : DS X G r (.Pass pos) (.nx r) := ps_imp ps_pass fun D σ H ⟨M, o, q⟩ => q M σ H o fun _ _ z => z
theorem sSet (i : Nat) {nm : Str} {p' : Pos} (h : DE X G r e x r1) (hN : X.N.Nodup) (hi : X.N[i]? = some nm := by rfl) (hx : Loc X.env.scope nm := by first | exact Or.inl rfl | exact Or.inr rfl)
    (hs : swapsWith e (some (.Name nm p')) pos.line X.env = pure false := by rfl) (hf : X.fn nm = true ∨ X.env.scope.names.lookup nm = some .local := by first | exact .inl rfl | exact .inr rfl) : DS X G r (.Assign [.Name nm p'] e pos) (.nx (r1.set i (.d x))) :=
  ps_imp (ps_set hN hi hx h hs hf) fun D σ H ⟨M, o, q⟩ => ⟨M, o, fun v H1 o1 s1 dx => q M _ H1 (o1.set dx) s1⟩
theorem sPar (i j : Nat) {n1 n2 : Str} {px py pt : Pos} {kt k2 pt2} (ha : DA X G r [a, b] [x, y] r1) (hN : X.N.Nodup) (hij : i ≠ j := by decide) (hi : X.N[i]? = some n1 := by rfl) (hj : X.N[j]? = some n2 := by rfl)
    (hx : X.env.scope.names.lookup n1 = some .local := by rfl) (hy : X.env.scope.names.lookup n2 = some .local := by rfl) (hc : X.calm = true := by rfl)
    (hw : swappedStores [.Tuple [.Name n1 px, .Name n2 py] kt pt] (.Tuple [a, b] k2 pt2) X.env = pure (some [n1, n2]) := by rfl)
    (hs : swapsWithSole [.Tuple [.Name n1 px, .Name n2 py] kt pt] (.Tuple [a, b] k2 pt2) pos.line X.env = pure false := by rfl) :
    DS X G r (.Assign [.Tuple [.Name n1 px, .Name n2 py] kt pt] (.Tuple [a, b] k2 pt2) pos) (.nx ((r1.set i (.d x)).set j (.d y))) :=
  ps_imp (ps_par hc hN hi hj hij hx hy ha hw hs) fun D σ H ⟨M, o, q⟩ => ⟨M, o, fun vs H1 o1 s1 dx => by
    cases dx with
    | cons d1 d2 =>
      cases d2 with
      | cons d2 d3 =>
        cases d3
        exact ⟨_, _, rfl, q M _ H1 ((o1.set d1).set d2) s1⟩⟩
/-! ### targets -/
theorem gNm (i : Nat) {nm : Str} (hN : X.N.Nodup) (hi : X.N[i]? = some nm := by rfl) (hx : Loc X.env.scope nm := by first | exact Or.inl rfl | exact Or.inr rfl)
    (hf : X.fn nm = true ∨ X.env.scope.names.lookup nm = some .local := by first | exact .inl rfl | exact .inr rfl) : DG X G r (.Name nm pos) x (r.set i (.d x)) [i] :=
  pg_imp (pg_name hN hi hx hf) fun v σ H Q ⟨M, o, d, q⟩ => q _ H (o.set d) (fun _ _ z => z) ⟨by simp, fun j hj => by
    rw [List.getElem?_set_ne (fun z => hj (by rw [z]; exact List.mem_singleton.mpr rfl))]⟩
theorem gN : DGs X G r [] [] r [] := pgs_imp pgs_nil fun v σ H Q ⟨M, o, d, q⟩ => by
  cases d
  exact ⟨rfl, q σ H o (fun _ _ z => z) ⟨rfl, fun _ _ => rfl⟩⟩
theorem gC (h : DG X G r e x r1 ts) (h2 : DGs X G r1 es xs r2 us) (hs : (assignEach (e :: es) X.env).map (·.2) = assign e X.env :: (assignEach es X.env).map (·.2) := by rfl) : DGs X G r (e :: es) (x :: xs) r2 (ts ++ us) :=
  pgs_imp (pgs_cons h h2 hs) fun v σ H Q ⟨M, o, d, q⟩ => by
    cases d with
    | cons d1 d2 =>
      exact ⟨_, _, rfl, M, o, d1, fun σ1 H1 o1 s1 f1 => ⟨M, o1, dpa_mono s1 _ _ d2, fun σ2 H2 o2 s2 f2 => q σ2 H2 o2 (Same.trans s1 s2) ⟨f2.1.trans f1.1, fun j hj =>
        (f2.2 j fun z => hj (List.mem_append_right _ z)).trans (f1.2 j fun z => hj (List.mem_append_left _ z))⟩⟩⟩
theorem gTu {kk : Nat} (h : DGs X G r es xs r1 ts) (hc : X.calm = true := by rfl) (hn : (assignEach es X.env).length = xs.length := by rfl) (hst : (assignEach es X.env).findIdx? (·.1) = none := by rfl) : DG X G r (.Tuple es kk pos) (.tuple xs) r1 ts :=
  pg_imp (pg_tup hc h rfl hst) fun v σ H Q ⟨M, o, d, q⟩ => by
    cases d with
    | tup hs ha => exact ⟨_, _, rfl, (hs.mono msk_le).t, by rw [dpa_length ha, hn], M, o, ha, q⟩
theorem sAsg {tg : Expr} (h : DE X G r e x r1) (hg : DG X G r1 tg x r2 ts) (hs : swapsWithSole [tg] e pos.line X.env = pure false := by rfl) (hw : swappedStores [tg] e X.env = pure none := by rfl)
    (h1 : (assignEach [tg] X.env).map (·.2) = [assign tg X.env] := by rfl) : DS X G r (.Assign [tg] e pos) (.nx r2) :=
  ps_imp (ps_asg h hg hs hw h1) fun D σ H ⟨M, o, q⟩ => ⟨M, o, fun v H1 o1 s1 dx => ⟨M, o1, dx, fun σ2 H2 o2 s2 _ => q M σ2 H2 o2 (Same.trans s1 s2)⟩⟩

/-! ### what is walked -/
structure ItOk (K : PySem.W.Frag) (J : It) (xs : List PyData) (S : Hp → Prop) : Prop where
  mono : ∀ H H', Same H H' → S H → S H'
  go : ∀ (i : Nat) (M : List Addr) (H : Hp), S (msk M H) → i < xs.length → J.go i H
  stop : ∀ (M : List Addr) (H : Hp), S (msk M H) → J.stop xs.length H
  yld : ∀ (i : Nat) (M : List Addr) (H : Hp) (v : V) (H' : Hp), (∀ a ∈ M, H a ≠ none) → S (msk M H) → i < xs.length → J.yld i H v H' → Same H H' ∧ ∃ x, xs[i]? = some x ∧ Dq K (msk M H') v x
def tI (K : PySem.W.Frag) (G : Fr0) (r : Rho) (xs : List PyData) (r' : Rho) : TI := fun σ H R => ∃ M, Ok K G M r σ H ∧ ∀ J H' S, Ok K G M r' σ H' → Same (msk M H) (msk M H') → ItOk K J xs S → S (msk M H') → R J H'
abbrev DI (X : Cx) (G : Fr0) (r : Rho) (tg iter : Expr) (xs : List PyData) (r' : Rho) : Prop := PI X tg iter (tI X.K G r xs r')
theorem pi_imp {tg iter : Expr} {t t' : TI} (h : PI X tg iter t) (i : ∀ σ H R, t' σ H R → t σ H R) : PI X tg iter t' := ⟨fun pins s σ H R I q => h.run pins s σ H R I (i σ H R q)⟩
theorem iL {tg : Expr} (h : DE X G r e (.list xs) r1) : DI X G r tg e xs r1 :=
  pi_imp (pi_list h) fun σ H R ⟨M, o, q⟩ => ⟨M, o, fun v H1 o1 s1 dx => by
    cases dx with
    | @lst p vs _ hs ha =>
      refine ⟨p, rfl, ⟨vs, Same.seq msk_le hs⟩, q (Itl X.K p) H1 (fun H => SqL X.K H p vs ∧ DqAll X.K H vs xs) o1 s1 ⟨fun H H' s ⟨h1, h2⟩ => ⟨Same.seq s h1, dpa_mono s _ _ h2⟩, fun i M H ⟨h1, h2⟩ hi => ?_, fun M H ⟨h1, h2⟩ => ?_, fun i M H v H' _ ⟨h1, h2⟩ hi hy => ?_⟩ ⟨hs, ha⟩⟩
      · obtain ⟨v, e1, _⟩ := dpa_get h2 (List.getElem?_eq_getElem hi)
        exact ⟨vs, v, Same.seq msk_le h1, e1⟩
      · exact ⟨vs, Same.seq msk_le h1, by rw [dpa_length h2]; exact Nat.le_refl _⟩
      · obtain ⟨rfl, hy⟩ := hy
        have e := hy vs (Same.seq msk_le h1)
        obtain ⟨d, e1, e2⟩ := dpa_of_get h2 e
        exact ⟨fun _ _ z => z, d, e1, e2⟩⟩
theorem iT {tg : Expr} (h : DE X G r e (.tuple xs) r1) : DI X G r tg e xs r1 :=
  pi_imp (pi_tup h) fun σ H R ⟨M, o, q⟩ => ⟨M, o, fun v H1 o1 s1 dx => by
    cases dx with
    | @tup p vs _ hs ha =>
      refine ⟨p, rfl, ⟨vs, (hs.mono msk_le).t⟩, q (Itt X.K p) H1 (fun H => SqT X.K H p vs ∧ DqAll X.K H vs xs) o1 s1 ⟨fun H H' s ⟨h1, h2⟩ => ⟨same_sqt s h1, dpa_mono s _ _ h2⟩, fun i M H ⟨h1, h2⟩ hi => ?_, fun M H ⟨h1, h2⟩ => ?_, fun i M H v H' _ ⟨h1, h2⟩ hi hy => ?_⟩ ⟨hs.t, ha⟩⟩
      · obtain ⟨v, e1, _⟩ := dpa_get h2 (List.getElem?_eq_getElem hi)
        exact ⟨vs, v, same_sqt msk_le h1, e1⟩
      · exact ⟨vs, same_sqt msk_le h1, by rw [dpa_length h2]; exact Nat.le_refl _⟩
      · obtain ⟨rfl, hy⟩ := hy
        have e := hy vs (same_sqt msk_le h1)
        obtain ⟨d, e1, e2⟩ := dpa_of_get h2 e
        exact ⟨fun _ _ z => z, d, e1, e2⟩⟩
/-- lo, lo + 1, .. as data -/
def rgD (lo : Int) (n : Nat) : List PyData := (List.range n).map fun (i : Nat) => .int (lo + i)
theorem itr_ok {K : PySem.W.Frag} (lo : Int) (n : Nat) : ItOk K (Itr lo n) (rgD lo n) (fun _ => True) where
  mono := fun _ _ _ _ => trivial
  go := fun i M H _ hi => by
    have : i < n := by simpa [rgD] using hi
    exact this
  stop := fun M H _ => by
    show n ≤ (rgD lo n).length
    simp [rgD]
  yld := fun i M H v H' _ _ hi hy => by
    obtain ⟨rfl, rfl⟩ := hy
    have hn : i < n := by simpa [rgD] using hi
    exact ⟨fun _ _ z => z, .int (lo + i), by simp [rgD, hn], .int _⟩
theorem iR1 {tg : Expr} {p : Pos} (hm : X.mg "range" = none) (h : DA X G r [e] [.int i] r1) (hb : -(2 ^ 62) ≤ i ∧ i < 2 ^ 62) (hg : Gl X "range" := by rfl) (hs : starEach [e] X.env = [(false, eval e X.env)] := by rfl) :
    DI X G r tg (.Call (.Name "range" p) [e] [] pos) (rgD 0 i.toNat) r1 :=
  pi_imp (pi_range1 hg hm h hs) fun σ H R ⟨M, o, q⟩ => ⟨M, o, fun vs H1 o1 s1 dx => by
    cases dx with
    | cons d1 d2 =>
      cases d1; cases d2
      exact ⟨i, rfl, hb.1, hb.2, q _ H1 _ o1 s1 (itr_ok 0 i.toNat) trivial⟩⟩
theorem iR2 {tg : Expr} {p : Pos} (hm : X.mg "range" = none) (h : DA X G r [a, b] [.int i, .int j] r2) (hb : -(2 ^ 62) ≤ i ∧ i < 2 ^ 62 ∧ -(2 ^ 62) ≤ j ∧ j < 2 ^ 62) (hg : Gl X "range" := by rfl)
    (hs : starEach [a, b] X.env = [(false, eval a X.env), (false, eval b X.env)] := by rfl) (hs2 : starEach [b] X.env = [(false, eval b X.env)] := by rfl) :
    DI X G r tg (.Call (.Name "range" p) [a, b] [] pos) (rgD i (j - i).toNat) r2 :=
  pi_imp (pi_range2 hg hm h hs hs2) fun σ H R ⟨M, o, q⟩ => ⟨M, o, fun vs H1 o1 s1 dx => by
    cases dx with
    | cons d1 d2 =>
      cases d1
      cases d2 with
      | cons d2 d3 =>
        cases d2; cases d3
        exact ⟨i, j, rfl, hb, q _ H1 _ o1 s1 (itr_ok i (j - i).toNat) trivial⟩⟩

/-! ### for -/
inductive ForR (S : Rho → PyData → Out → Prop) : Rho → List PyData → Out → Prop
  | nil {r : Rho} : ForR S r [] (.nx r)
  | step {r r1 : Rho} {x : PyData} {xs : List PyData} {o : Out} : S r x (.nx r1) → ForR S r1 xs o → ForR S r (x :: xs) o
  | stop {r : Rho} {x y : PyData} {xs bg : List PyData} : S r x (.rt y bg) → ForR S r (x :: xs) (.rt y bg)
def FStep (X : Cx) (G : Fr0) (tg : Expr) (body : List Stmt) (r : Rho) (x : PyData) (o : Out) : Prop := ∃ r1 ts, DG X G r tg x r1 ts ∧ DB X G r1 body o
theorem fS {tg : Expr} {body : List Stmt} (h : DG X G r tg x r1 ts) (h2 : DB X G r1 body o) : FStep X G tg body r x o := ⟨r1, ts, h, h2⟩
def gAny (X : Cx) (G : Fr0) (tg : Expr) (body : List Stmt) : TG := fun v σ H Q => ∃ r x o r1 ts, DG X G r tg x r1 ts ∧ DB X G r1 body o ∧ tG X.K G r x r1 ts v σ H Q
theorem pg_any (tg : Expr) (body : List Stmt) : PG X tg (gAny X G tg body) := ⟨fun pins s σ H v u Q I rv ⟨r, x, o, r1, ts, h, _, q⟩ => h.run pins s σ H v u Q I rv q⟩
def bAny (X : Cx) (G : Fr0) (body : List Stmt) : TS := fun D σ H => ∃ r o, DB X G r body o ∧ tS X.K G r o D σ H
theorem pss_any (body : List Stmt) : PSs X body (bAny X G body) := ⟨fun pins s σ H D I ⟨r, o, h, q⟩ => h.run pins s σ H D I q⟩
theorem forR_nofr {S : Rho → PyData → Out → Prop} {r : Rho} {xs : List PyData} {o : Out} (h : ForR S r xs o) : ∀ zs, o ≠ .fr zs := by
  induction h with
  | nil => exact fun _ z => by cases z
  | step _ _ ih => exact ih
  | stop _ => exact fun _ z => by cases z
theorem sFor {tg iter : Expr} {body : List Stmt} (hi : DI X G r tg iter xs r1) (hf : ForR (FStep X G tg body) r1 xs o) (hp : PassesOwn (model X.prog X.w) X.A X.env X.xe := by exact PassesOwn.never) (hc : X.calm = true := by rfl)
    (hs : ∀ x, foldedSetIterable iter X.env x = pure x := by intro _; rfl) : DS X G r (.For tg iter body [] pos) o := by
  refine ps_imp (ps_for hp hc hi (pg_any (G := G) tg body) (pss_any (G := G) body) hs) fun D σ H hq => ?_
  cases o with
  | nx r2 =>
    obtain ⟨M, o, q⟩ := hq
    refine ⟨M, o, fun J H1 S o1 s1 J1 S1 => ?_⟩
    refine ⟨fun i m σ' H' => m = xs.length - i ∧ i ≤ xs.length ∧ ∃ M' ri, Ok X.K G M' ri σ' H' ∧ Same (msk M H) (msk M' H') ∧ S (msk M' H') ∧ ForR (FStep X G tg body) ri (xs.drop i) (.nx r2), ⟨xs.length, rfl, Nat.zero_le _, M, r1, o1, s1, S1, hf⟩, ?_⟩
    rintro i m σ' H' ⟨rfl, hi, M', ri, o2, s2, S2, hf2⟩
    by_cases hlt : i < xs.length
    · rw [List.drop_eq_getElem_cons hlt] at hf2
      cases hf2 with
      | step hst hrest =>
        obtain ⟨ra, ts, hg, hb⟩ := hst
        rename_i rb
        refine .inr ⟨J1.go i M' H' S2 hlt, fun σ3 H3 => ∃ M3, Ok X.K G M3 rb σ3 H3 ∧ Same (msk M H) (msk M3 H3) ∧ S (msk M3 H3), fun σ3 H3 ⟨M3, o3, s3, S3⟩ => ⟨xs.length - (i + 1), by omega, rfl, hlt, M3, rb, o3, s3, S3, hrest⟩, fun v H4 hy => ?_⟩
        obtain ⟨sg, x, ex, dx⟩ := J1.yld i M' H' v H4 o2.dom S2 hlt hy
        rw [List.getElem?_eq_getElem hlt] at ex
        cases ex
        have sg' := msk_grow (M := M') sg
        refine ⟨ri, _, _, ra, ts, hg, hb, M', o2.grow sg, dx, fun σ5 H5 o5 s5 _ => ?_⟩
        refine ⟨ra, _, hb, M', o5, fun M6 σ6 H6 o6 s6 => ?_⟩
        exact ⟨M6, o6, Same.trans s2 (Same.trans sg' (Same.trans s5 s6)), J1.mono _ _ (Same.trans sg' (Same.trans s5 s6)) S2⟩
    · have e : i = xs.length := by omega
      subst e
      rw [List.drop_length] at hf2
      cases hf2
      exact .inl ⟨J1.stop M' H' S2, q M' σ' H' o2 s2⟩
  | rt y r2 =>
    obtain ⟨M, o, q⟩ := hq
    refine ⟨M, o, fun J H1 S o1 s1 J1 S1 => ?_⟩
    refine ⟨fun i m σ' H' => m = xs.length - i ∧ i ≤ xs.length ∧ ∃ M' ri, Ok X.K G M' ri σ' H' ∧ Same (msk M H) (msk M' H') ∧ S (msk M' H') ∧ ForR (FStep X G tg body) ri (xs.drop i) (.rt y r2), ⟨xs.length, rfl, Nat.zero_le _, M, r1, o1, s1, S1, hf⟩, ?_⟩
    rintro i m σ' H' ⟨rfl, hi, M', ri, o2, s2, S2, hf2⟩
    by_cases hlt : i < xs.length
    · rw [List.drop_eq_getElem_cons hlt] at hf2
      refine .inr ⟨J1.go i M' H' S2 hlt, ?_⟩
      cases hf2 with
      | step hst hrest =>
        obtain ⟨ra, ts, hg, hb⟩ := hst
        rename_i rb
        refine ⟨fun σ3 H3 => ∃ M3, Ok X.K G M3 rb σ3 H3 ∧ Same (msk M H) (msk M3 H3) ∧ S (msk M3 H3), fun σ3 H3 ⟨M3, o3, s3, S3⟩ => ⟨xs.length - (i + 1), by omega, rfl, hlt, M3, rb, o3, s3, S3, hrest⟩, fun v H4 hy => ?_⟩
        obtain ⟨sg, x, ex, dx⟩ := J1.yld i M' H' v H4 o2.dom S2 hlt hy
        rw [List.getElem?_eq_getElem hlt] at ex
        cases ex
        have sg' := msk_grow (M := M') sg
        refine ⟨ri, _, _, ra, ts, hg, hb, M', o2.grow sg, dx, fun σ5 H5 o5 s5 _ => ?_⟩
        refine ⟨ra, _, hb, M', o5, fun M6 σ6 H6 o6 s6 => ?_⟩
        exact ⟨M6, o6, Same.trans s2 (Same.trans sg' (Same.trans s5 s6)), J1.mono _ _ (Same.trans sg' (Same.trans s5 s6)) S2⟩
      | stop hst =>
        obtain ⟨ra, ts, hg, hb⟩ := hst
        refine ⟨fun _ _ => False, fun _ _ z => z.elim, fun v H4 hy => ?_⟩
        obtain ⟨sg, x, ex, dx⟩ := J1.yld i M' H' v H4 o2.dom S2 hlt hy
        rw [List.getElem?_eq_getElem hlt] at ex
        cases ex
        have sg' := msk_grow (M := M') sg
        refine ⟨ri, _, _, ra, ts, hg, hb, M', o2.grow sg, dx, fun σ5 H5 o5 s5 _ => ?_⟩
        exact ⟨ra, _, hb, M', o5, q⟩
    · have e : i = xs.length := by omega
      subst e
      rw [List.drop_length] at hf2
      cases hf2
  | fr zs =>
    exact (forR_nofr hf zs rfl).elim

/-! ### while -/
inductive WhR (T : Rho → Bool → Rho → Prop) (B : Rho → Rho → Prop) : Nat → Rho → Rho → Prop
  | done {n : Nat} {r r1 : Rho} : T r false r1 → WhR T B n r r1
  | step {n : Nat} {r r1 r2 r3 : Rho} : T r true r1 → B r1 r2 → WhR T B n r2 r3 → WhR T B (n + 1) r r3
def tAny (X : Cx) (G : Fr0) (c : Expr) : TT := fun σ H Q => ∃ r k r1, DT X G r c k r1 ∧ tT X.K G r k r1 σ H Q
theorem pt_any (c : Expr) : PT X c (tAny X G c) := ⟨fun pins s σ H Q I ⟨r, k, r1, h, q⟩ => h.run pins s σ H Q I q⟩
theorem sWh {body : List Stmt} {n : Nat} (h : WhR (fun r k r' => DT X G r c k r') (fun r r' => DB X G r body (.nx r')) n r r1) (hp : PassesOwn (model X.prog X.w) X.A X.env X.xe := by exact PassesOwn.never) : DS X G r (.While c body [] pos) (.nx r1) := by
  refine ps_imp (ps_while hp (pt_any (G := G) c) (pss_any (G := G) body)) fun D σ H ⟨M, o, q⟩ => ?_
  refine ⟨fun m σ' H' => ∃ M' ri, Ok X.K G M' ri σ' H' ∧ Same (msk M H) (msk M' H') ∧ WhR (fun r k r' => DT X G r c k r') (fun r r' => DB X G r body (.nx r')) m ri r1, ⟨n, M, r, o, fun _ _ z => z, h⟩, ?_⟩
  rintro m σ' H' ⟨M', ri, o2, s2, hw⟩
  cases hw with
  | done ht => exact ⟨ri, _, _, ht, M', o2, fun H3 o3 s3 => iteF (q M' σ' H3 o3 (Same.trans s2 s3))⟩
  | step ht hb hr =>
    rename_i m' ra rb
    refine ⟨ri, _, _, ht, M', o2, fun H3 o3 s3 => iteT ?_⟩
    refine ⟨fun σ4 H4 => ∃ M4, Ok X.K G M4 rb σ4 H4 ∧ Same (msk M H) (msk M4 H4), fun σ4 H4 ⟨M4, o4, s4⟩ => ⟨m', Nat.lt_succ_self _, M4, rb, o4, s4, hr⟩, ra, _, hb, M', o3, fun M4 σ4 H4 o4 s4 => ⟨M4, o4, Same.trans s2 (Same.trans s3 s4)⟩⟩
end
end DL
end Sec_D3
section Sec_D4
set_option maxRecDepth 100000
/-! The data layer 4: comprehensions. -/
namespace DL
open PySem PySem.Spec PyProof.Rows L2
/-- the slots vs forgotten -/
def wipeR : Rho → List Nat → Rho
  | r, [] => r
  | r, v :: vs => (wipeR r vs).set v .u
theorem wipeR_length (r : Rho) : ∀ vs : List Nat, (wipeR r vs).length = r.length
  | [] => rfl
  | v :: vs => by unfold wipeR; rw [List.length_set, wipeR_length r vs]
theorem wipeR_out {r : Rho} {j : Nat} : ∀ {vs : List Nat}, j ∉ vs → (wipeR r vs)[j]? = r[j]?
  | [], _ => rfl
  | v :: vs, h => by
    unfold wipeR
    rw [List.getElem?_set_ne (fun e => h (by rw [e]; exact List.mem_cons_self)), wipeR_out fun z => h (List.mem_cons_of_mem _ z)]
theorem wipeR_in {r : Rho} {j : Nat} {s : Sv} : ∀ {vs : List Nat}, j ∈ vs → (wipeR r vs)[j]? = some s → s = .u
  | v :: vs, h, e => by
    unfold wipeR at e
    by_cases hv : v = j
    · subst hv
      by_cases hl : v < (wipeR r vs).length
      · rw [List.getElem?_set_self hl] at e
        cases e; rfl
      · rw [List.getElem?_eq_none (by simpa using hl)] at e; cases e
    · rw [List.getElem?_set_ne hv] at e
      rcases List.mem_cons.mp h with z | z
      · exact (hv z.symm).elim
      · exact wipeR_in z e
theorem wipe_out' {σ : L2.St} {j : Nat} : ∀ {vs : List Nat}, j ∉ vs → (wipe σ vs)[j]? = σ[j]?
  | [], _ => rfl
  | v :: vs, h => by
    unfold wipe
    rw [List.getElem?_set_ne (fun e => h (by rw [e]; exact List.mem_cons_self)), wipe_out' fun z => h (List.mem_cons_of_mem _ z)]
theorem wipe_in' {σ : L2.St} {j : Nat} : ∀ {vs : List Nat}, j ∈ vs → (wipe σ vs)[j]? = if j < σ.length then some none else none
  | v :: vs, h => by
    unfold wipe
    by_cases hv : v = j
    · subst hv
      by_cases hl : v < (wipe σ vs).length
      · rw [List.getElem?_set_self hl, if_pos (by rw [wipe_length] at hl; exact hl)]
      · rw [List.getElem?_eq_none (by simpa using hl), if_neg (by rw [wipe_length] at hl; exact hl)]
    · rw [List.getElem?_set_ne hv]
      rcases List.mem_cons.mp h with z | z
      · exact (hv z.symm).elim
      · exact wipe_in' z
theorem wipe_wipe {σ : L2.St} {vs : List Nat} : wipe (wipe σ vs) vs = wipe σ vs := by
  apply List.ext_getElem?
  intro j
  by_cases hj : j ∈ vs
  · rw [wipe_in' hj, wipe_in' hj, wipe_length]
  · rw [wipe_out' hj]
theorem wipe_ext {σ σ' : L2.St} {vs : List Nat} (hl : σ'.length = σ.length) (h : ∀ j : Nat, j ∉ vs → σ'[j]? = σ[j]?) : wipe σ' vs = wipe σ vs := by
  apply List.ext_getElem?
  intro j
  by_cases hj : j ∈ vs
  · rw [wipe_in' hj, wipe_in' hj, hl]
  · rw [wipe_out' hj, wipe_out' hj, h j hj]
/-- behind a comprehension: its own slots as they were, the others as it left them -/
def mergeR (r r' : Rho) (vs : List Nat) : Rho := (List.range r.length).map fun j => if j ∈ vs then r.getD j .u else r'.getD j .u
theorem mergeR_get {r r' : Rho} {vs : List Nat} {j : Nat} {s : Sv} (h : (mergeR r r' vs)[j]? = some s) (hl : r'.length = r.length) : (j ∈ vs ∧ r[j]? = some s) ∨ (j ∉ vs ∧ r'[j]? = some s) := by
  unfold mergeR at h
  rw [List.getElem?_map] at h
  by_cases hj : j < r.length
  · rw [List.getElem?_range hj] at h
    have h2 : (if j ∈ vs then r.getD j .u else r'.getD j .u) = s := by simpa using h
    by_cases hv : j ∈ vs
    · rw [if_pos hv] at h2
      refine .inl ⟨hv, ?_⟩
      rw [← h2, List.getD_eq_getElem?_getD, List.getElem?_eq_getElem hj]; rfl
    · rw [if_neg hv] at h2
      refine .inr ⟨hv, ?_⟩
      rw [← h2, List.getD_eq_getElem?_getD, List.getElem?_eq_getElem (by rw [hl]; exact hj)]; rfl
  · rw [List.getElem?_eq_none (by simpa using hj)] at h; cases h
theorem mergeR_self {r : Rho} {vs : List Nat} : mergeR r (wipeR r vs) vs = r := by
  apply List.ext_getElem?
  intro j
  unfold mergeR
  rw [List.getElem?_map]
  by_cases hj : j < r.length
  · rw [List.getElem?_range hj]
    by_cases hv : j ∈ vs
    · simp [hv, List.getD_eq_getElem?_getD, List.getElem?_eq_getElem hj]
    · have := wipeR_out (r := r) hv
      simp [hv, List.getD_eq_getElem?_getD, this, List.getElem?_eq_getElem hj]
  · rw [List.getElem?_eq_none (by simpa using hj), List.getElem?_eq_none (Nat.le_of_not_lt hj)]
    rfl

section
variable {K : PySem.W.Frag} {G : Fr0} {M : List Addr} {r r' : Rho} {σ : L2.St} {H H' : Hp} {vs : List Nat} {D : Addr}
theorem ok_wipe (o : Ok K G M r σ H) : Ok K G M (wipeR r vs) (wipe σ vs) H := by
  have out : ∀ {j : Nat} {s : Sv}, (wipeR r vs)[j]? = some s → s ≠ .u → j ∉ vs ∧ r[j]? = some s := fun {j s} e n => by
    by_cases h : j ∈ vs
    · exact (n (wipeR_in h e)).elim
    · exact ⟨h, by rw [← wipeR_out h]; exact e⟩
  refine ⟨o.sub, o.new, o.dom, o.fr, by rw [wipe_length, wipeR_length]; exact o.len, fun i x e => ?_, fun i ow xs e => ?_, fun i j ow xs ow' ys a e1 e2 e3 e4 => ?_, o.wm, o.lk, fun i kvs e => ?_⟩
  · obtain ⟨h1, h2⟩ := out e (fun z => by cases z)
    rw [wipe_out' h1]
    exact o.sv i x h2
  · obtain ⟨h1, h2⟩ := out e (fun z => by cases z)
    rw [wipe_out' h1]
    exact o.mv i ow xs h2
  · obtain ⟨h1, h2⟩ := out e1 (fun z => by cases z)
    obtain ⟨h3, h4⟩ := out e2 (fun z => by cases z)
    rw [wipe_out' h1] at e3
    rw [wipe_out' h3] at e4
    exact o.inj i j ow xs ow' ys a h2 h4 e3 e4
  · obtain ⟨h1, h2⟩ := out e (fun z => by cases z)
    rw [wipe_out' h1]
    exact o.tv i kvs h2
def Fr0.lock (G : Fr0) (D : Addr) (H : Hp) : Fr0 := { G with L := D :: G.L, HL := H }
/-- a new list at D, hidden and locked -/
theorem ok_hide (o : Ok K G M r σ H) (hD : H D = none) : Ok K (G.lock D (upd H D (.lst []))) (D :: M) r σ (upd H D (.lst [])) := by
  have s : Same H (upd H D (.lst [])) := same_new hD
  have ms : Same (msk M H) (msk (D :: M) (upd H D (.lst []))) := fun b u e => by
    obtain ⟨h1, h2⟩ := msk_some e
    have hb : b ≠ D := fun z => by rw [z, hD] at h2; cases h2
    rw [msk_out (by simp [hb, h1])]
    exact s b u h2
  have dM : D ∉ M := o.nin hD
  refine ⟨fun a ha => List.mem_cons_of_mem _ (o.sub a ha), fun a ha hn => ?_, fun a ha => ?_, fun a u h1 h2 => s _ _ (o.fr a u h1 h2), o.len, fun i x e => ?_, fun i ow xs e => ?_, o.inj, o.wm, fun a ha => ⟨?_, rfl⟩, fun i kvs e => let ⟨a, e1, e2⟩ := o.tv i kvs e; ⟨a, e1, ms _ _ e2⟩⟩
  · rcases List.mem_cons.mp ha with z | z
    · subst z
      cases q : G.H0 a with
      | none => exact q
      | some u =>
        exfalso
        by_cases hw : a ∈ G.W0
        · exact hn (o.wm a hw)
        · have := o.fr a u hw q
          rw [hD] at this; cases this
    · exact o.new a z hn
  · rcases List.mem_cons.mp ha with z | z
    · subst z
      rw [upd_same]; exact fun z => by cases z
    · intro q
      cases q2 : H a with
      | none => exact o.dom a z q2
      | some u => rw [s a u q2] at q; cases q
  · obtain ⟨v, e1, e2⟩ := o.sv i x e
    exact ⟨v, e1, dp_mono ms _ _ e2⟩
  · obtain ⟨a, ws, e1, e2, e3, e4, e5, e6⟩ := o.mv i ow xs e
    refine ⟨a, ws, e1, List.mem_cons_of_mem _ e2, s _ _ e3, dpa_mono ms _ _ e4, ?_, e6⟩
    show a ∉ D :: G.L
    have : a ≠ D := fun z => dM (z ▸ e2)
    simp [this, e5]
  · rcases List.mem_cons.mp (show a ∈ D :: G.L from ha) with z | z
    · subst z; exact List.mem_cons_self
    · exact List.mem_cons_of_mem _ (o.lk a z).1
/-- the locked list at D is given an item -/
theorem ok_push {H1 : Hp} (o : Ok K (G.lock D H1) (D :: M) r σ H) (hn : D ∉ G.M0) (u : HO) : Ok K (G.lock D (upd H D u)) (D :: M) r σ (upd H D u) := by
  have ms : Same (msk (D :: M) H) (msk (D :: M) (upd H D u)) := msk_mono fun b w hb e => by
    rw [upd_ne (fun z => hb (by rw [z]; exact List.mem_cons_self))]; exact e
  have ne : ∀ {a : Addr}, a ∉ (G.lock D H1).L → a ≠ D := fun {a} h z => h (by rw [z]; exact List.mem_cons_self)
  have dM : (G.lock D H1).H0 D = none := o.new D List.mem_cons_self hn
  refine ⟨o.sub, o.new, fun a ha => ?_, fun a w h1 h2 => ?_, o.len, fun i x e => ?_, fun i ow xs e => ?_, o.inj, o.wm, fun a ha => ⟨(o.lk a ha).1, rfl⟩, fun i kvs e => let ⟨a, e1, e2⟩ := o.tv i kvs e; ⟨a, e1, ms _ _ e2⟩⟩
  · by_cases h : a = D
    · rw [h, upd_same]; exact fun z => by cases z
    · rw [upd_ne h]; exact o.dom a ha
  · by_cases h : a = D
    · rw [h] at h2
      have h2 : (G.lock D H1).H0 D = some w := h2
      rw [dM] at h2; cases h2
    · rw [upd_ne h]; exact o.fr a w h1 h2
  · obtain ⟨v, e1, e2⟩ := o.sv i x e
    exact ⟨v, e1, dp_mono ms _ _ e2⟩
  · obtain ⟨a, ws, e1, e2, e3, e4, e5, e6⟩ := o.mv i ow xs e
    exact ⟨a, ws, e1, e2, by rw [upd_ne (ne e5)]; exact e3, dpa_mono ms _ _ e4, e5, e6⟩
/-- the lock is set to the heap as it stands -/
theorem ok_relock {H1 : Hp} (o : Ok K (G.lock D H1) M r σ H) : Ok K (G.lock D H) M r σ H :=
  ⟨o.sub, o.new, o.dom, o.fr, o.len, o.sv, o.mv, o.inj, o.wm, fun a ha => ⟨(o.lk a ha).1, rfl⟩, o.tv⟩
/-- behind a comprehension -/
theorem ok_done {H1 : Hp} (o1 : Ok K G M r σ H1) (o2 : Ok K (G.lock D H) (D :: M) r' (wipe σ vs) H) (hD : D ∉ M) (s : Same (msk M H1) (msk (D :: M) H)) (hL : ∀ a ∈ G.L, H a = G.HL a)
    (hm : ∀ j ∈ vs, ∀ ow xs, r[j]? ≠ some (Sv.m ow xs)) : Ok K G M (mergeR r r' vs) σ H := by
  have ms : Same (msk (D :: M) H) (msk M H) := msk_sub fun a ha => List.mem_cons_of_mem _ ha
  have hl : r'.length = r.length := by rw [← o2.len, wipe_length, o1.len]
  have mm : ∀ {j : Nat} {ow : Bool} {xs : List PyData}, (mergeR r r' vs)[j]? = some (Sv.m ow xs) → j ∉ vs ∧ r'[j]? = some (Sv.m ow xs) := fun {j ow xs} e => by
    rcases mergeR_get e hl with ⟨h1, h2⟩ | h
    · exact (hm j h1 ow xs h2).elim
    · exact h
  refine ⟨o1.sub, o1.new, fun a ha => o2.dom a (List.mem_cons_of_mem _ ha), o2.fr, by unfold mergeR; simp [o1.len], fun i x e => ?_, fun i ow xs e => ?_, fun i j ow xs ow' ys a e1 e2 e3 e4 => ?_, o1.wm, fun a ha => ⟨(o1.lk a ha).1, hL a ha⟩, fun i kvs e => ?_⟩
  · rcases mergeR_get e hl with ⟨_, h2⟩ | ⟨h1, h2⟩
    · obtain ⟨v, f1, f2⟩ := o1.sv i x h2
      exact ⟨v, f1, dp_mono (Same.trans s ms) _ _ f2⟩
    · obtain ⟨v, f1, f2⟩ := o2.sv i x h2
      rw [wipe_out' h1] at f1
      exact ⟨v, f1, dp_mono ms _ _ f2⟩
  · obtain ⟨h1, h2⟩ := mm e
    obtain ⟨a, ws, f1, f2, f3, f4, f5, f6⟩ := o2.mv i ow xs h2
    rw [wipe_out' h1] at f1
    have hne : a ≠ D := fun z => f5 (by rw [z]; exact List.mem_cons_self)
    have hLa : a ∉ G.L := fun z => f5 (List.mem_cons_of_mem _ z)
    refine ⟨a, ws, f1, ?_, f3, dpa_mono ms _ _ f4, hLa, f6⟩
    rcases List.mem_cons.mp f2 with z | z
    · exact (hne z).elim
    · exact z
  · obtain ⟨h1, h2⟩ := mm e1
    obtain ⟨h3, h4⟩ := mm e2
    refine o2.inj i j ow xs ow' ys a h2 h4 ?_ ?_
    · rw [wipe_out' h1]; exact e3
    · rw [wipe_out' h3]; exact e4
  · rcases mergeR_get e hl with ⟨_, h2⟩ | ⟨h1, h2⟩
    · obtain ⟨v, f1, f2⟩ := o1.tv i kvs h2
      exact ⟨v, f1, Same.trans s ms _ _ f2⟩
    · obtain ⟨v, f1, f2⟩ := o2.tv i kvs h2
      rw [wipe_out' h1] at f1
      exact ⟨v, f1, ms _ _ f2⟩
end

/-! ### comprehensions -/
section
variable {X : Cx} {G : Fr0} {r r1 r2 r3 r' : Rho} {a b c e : Expr} {es : List Expr} {pos : Pos} {x y z : PyData} {xs ys : List PyData} {k : Bool} {ts us : List Nat}
abbrev DTs (X : Cx) (G : Fr0) (r : Rho) (ifs : List Expr) (k : Bool) (r' : Rho) : Prop := PTs X ifs (tT X.K G r k r')
theorem pts_imp {ifs : List Expr} {t t' : TT} (h : PTs X ifs t) (i : ∀ σ H Q, t' σ H Q → t σ H Q) : PTs X ifs t' := ⟨fun pins s σ H Q I q => h.run pins s σ H Q I (i σ H Q q)⟩
theorem ts0 : DTs X G r [] true r := pts_imp pts_nil fun σ H Q ⟨M, o, q⟩ => q H o fun _ _ z => z
theorem ts1 (h : DT X G r c k r1) : DTs X G r [c] k r1 := pts_one h
/-- the contexts of a comprehension's block -/
abbrev Bk (X : Cx) (scope : Scope) (P : Cx → Fr0 → Prop) : Prop := ∀ (G : Fr0) (s : Shared) (H : Hp) (C : Addr) (cl : List (Str × Addr)) (fp : List Addr), P (X.blk s H scope (compEnvC scope cl C X.env) fp) G
/-- one turn: the item x gives y, or nothing -/
def CTurn (X : Cx) (scope : Scope) (vs : List Nat) (tg : Expr) (ifs : List Expr) (elt : Expr) (r : Rho) (x : PyData) (y : Option PyData) (r' : Rho) : Prop :=
  ∃ ra ts rb k, Bk X scope (fun Y G => DG Y G r tg x ra ts) ∧ (∀ j ∈ ts, j ∈ vs) ∧ Bk X scope (fun Y G => DTs Y G ra ifs k rb) ∧
    ((k = true ∧ ∃ w rc, y = some w ∧ Bk X scope (fun Y G => DE Y G rb elt w rc) ∧ r' = wipeR rc vs) ∨ (k = false ∧ y = none ∧ r' = wipeR rb vs))
inductive CompR (S : Rho → PyData → Option PyData → Rho → Prop) : Rho → List PyData → List PyData → Rho → Prop
  | nil {r : Rho} : CompR S r [] [] r
  | take {r r1 r2 : Rho} {x y : PyData} {xs ys : List PyData} : S r x (some y) r1 → CompR S r1 xs ys r2 → CompR S r (x :: xs) (y :: ys) r2
  | skip {r r1 r2 : Rho} {x : PyData} {xs ys : List PyData} : S r x none r1 → CompR S r1 xs ys r2 → CompR S r (x :: xs) ys r2
def gCA (X : Cx) (scope : Scope) (tg : Expr) (G : Fr0) : TG := fun v σ H Q => ∃ (D : Addr) (H' : Hp) (r : Rho) (x : PyData) (ra : Rho) (ts : List Nat), Bk X scope (fun Y G => DG Y G r tg x ra ts) ∧ tG X.K (G.lock D H') r x ra ts v σ H Q
def tCA (X : Cx) (scope : Scope) (ifs : List Expr) (G : Fr0) : TT := fun σ H Q => ∃ (D : Addr) (H' : Hp) (r : Rho) (k : Bool) (r' : Rho), Bk X scope (fun Y G => DTs Y G r ifs k r') ∧ tT X.K (G.lock D H') r k r' σ H Q
def eCA (X : Cx) (scope : Scope) (elt : Expr) (G : Fr0) : TE := fun σ H Q => ∃ (D : Addr) (H' : Hp) (r : Rho) (y : PyData) (r' : Rho), Bk X scope (fun Y G => DE Y G r elt y r') ∧ tE X.K (G.lock D H') r y r' σ H Q
variable {tg iter elt : Expr} {ifs : List Expr} {scope : Scope} {own : List (Str × Nat)}
/-- the reading of a comprehension, by what its turns give -/
theorem lcR (hm : ∀ j ∈ own.map (·.2), ∀ ow zs, r1[j]? ≠ some (Sv.m ow zs)) (hc : CompR (CTurn X scope (own.map (·.2)) tg ifs elt) (wipeR r1 (own.map (·.2))) xs ys r2) (hz : xs.length ≤ sizeLine)
    {σ : L2.St} {H : Hp} {Q : VK} {M : List Addr} (o : Ok X.K G M r σ H) (q : ∀ D vs H', Ok X.K G M (mergeR r1 r2 (own.map (·.2))) σ H' → Same (msk M H) (msk M H') → msk M H' D = some (.lst vs) → H D = none → DqAll X.K (msk (D :: M) H') vs ys → Q (.ref D) H')
    {r0 : Rho} (hr0 : r0 = r) : tLc (tI X.K G r0 xs r1) (gCA X scope tg G) (tCA X scope ifs G) (eCA X scope elt G) (own.map (·.2)) σ H Q := by
  subst hr0
  generalize hvs : own.map (·.2) = vs at hm hc q
  refine ⟨M, o, fun J H1 S o1 s1 J1 S1 D hD => ?_⟩
  have hDM : D ∉ M := o1.nin hD
  have hD0 : H D = none := by
    cases qd : H D with
    | none => rfl
    | some u =>
      have z := s1 D u (by rw [msk_out hDM]; exact qd)
      rw [msk_out hDM, hD] at z; cases z
  have hDM0 : D ∉ G.M0 := fun z => hDM (o1.sub D z)
  have hDL : D ∉ G.L := fun z => hDM (o1.lk D z).1
  have ms0 : Same (msk M H1) (msk (D :: M) (upd H1 D (.lst []))) := fun b u e => by
    obtain ⟨h1, h2⟩ := msk_some e
    have hb : b ≠ D := fun z => by rw [z, hD] at h2; cases h2
    rw [msk_out (by simp [hb, h1]), upd_ne hb]; exact h2
  refine ⟨fun i m H' => m = xs.length - i ∧ i ≤ xs.length ∧ ∃ ri acc yd yr, Ok X.K (G.lock D H') (D :: M) ri (wipe σ vs) H' ∧ Same (msk M H1) (msk (D :: M) H') ∧ (∀ a ∈ G.L, H' a = G.HL a) ∧ H' D = some (.lst acc) ∧
      DqAll X.K (msk (D :: M) H') acc yd ∧ acc.length ≤ i ∧ ys = yd ++ yr ∧ CompR (CTurn X scope vs tg ifs elt) ri (xs.drop i) yr r2,
    ⟨xs.length, rfl, Nat.zero_le _, wipeR r1 vs, [], [], ys, ok_wipe (ok_hide o1 hD), ms0, fun a ha => ?_, upd_same, .nil, Nat.le_refl _, rfl, hc⟩, ?_⟩
  · rw [upd_ne (fun z => hDL (by rw [← z]; exact ha))]
    exact (o1.lk a ha).2
  rintro i m H' ⟨rfl, hi, ri, acc, yd, yr, o2, s2, l2, d2, a2, n2, ey, hc2⟩
  by_cases hlt : i < xs.length
  · rw [List.drop_eq_getElem_cons hlt] at hc2
    have Si : S (msk (D :: M) H') := J1.mono _ _ s2 S1
    refine .inr ⟨J1.go i (D :: M) H' Si hlt, ?_⟩
    have adv : ∀ (H3 : Hp) (r3 : Rho) (yd' yr' : List PyData) (acc' : List V), Ok X.K (G.lock D H') (D :: M) r3 (wipe σ vs) H3 → Same (msk (D :: M) H') (msk (D :: M) H3) → H3 D = some (.lst acc') → DqAll X.K (msk (D :: M) H3) acc' yd' → acc'.length ≤ i + 1 → ys = yd' ++ yr' →
        CompR (CTurn X scope vs tg ifs elt) r3 (xs.drop (i + 1)) yr' r2 → ∃ m', m' < xs.length - i ∧ m' = xs.length - (i + 1) ∧ i + 1 ≤ xs.length ∧ ∃ ri acc yd yr, Ok X.K (G.lock D H3) (D :: M) ri (wipe σ vs) H3 ∧ Same (msk M H1) (msk (D :: M) H3) ∧ (∀ a ∈ G.L, H3 a = G.HL a) ∧ H3 D = some (.lst acc) ∧
          DqAll X.K (msk (D :: M) H3) acc yd ∧ acc.length ≤ i + 1 ∧ ys = yd ++ yr ∧ CompR (CTurn X scope vs tg ifs elt) ri (xs.drop (i + 1)) yr r2 := by
      intro H3 r3 yd' yr' acc' o3 s3 d3 a3 n3 e3 c3
      refine ⟨xs.length - (i + 1), by omega, rfl, hlt, r3, acc', yd', yr', ok_relock o3, Same.trans s2 s3, fun a ha => ?_, d3, a3, n3, e3, c3⟩
      have := (o3.lk a (List.mem_cons_of_mem _ ha)).2
      rw [this]
      exact l2 a ha
    have keepD : ∀ {H3 : Hp} {r3 : Rho} {σ3 : L2.St}, Ok X.K (G.lock D H') (D :: M) r3 σ3 H3 → H3 D = some (.lst acc) := fun {H3 r3 σ3} o3 => by
      have := (o3.lk D List.mem_cons_self).2
      rw [this]
      exact d2
    cases hc2 with
    | @take _ rx _ _ w _ yr' ht hr =>
      obtain ⟨ra, ts, rb, k, hg, hts, hT, hk⟩ := ht
      rcases hk with ⟨rfl, w', rc, ew, hE, rfl⟩ | ⟨_, ew, _⟩
      · obtain rfl : w = w' := Option.some.inj ew
        refine ⟨fun H3 => ∃ acc', Ok X.K (G.lock D H3) (D :: M) (wipeR rc vs) (wipe σ vs) H3 ∧ Same (msk M H1) (msk (D :: M) H3) ∧ (∀ a ∈ G.L, H3 a = G.HL a) ∧ H3 D = some (.lst acc') ∧ DqAll X.K (msk (D :: M) H3) acc' (yd ++ [w]) ∧ acc'.length ≤ i + 1, fun H3 ⟨acc', o3, s3, l3, d3, a3, n3⟩ => ?_, fun v H4 hy => ?_⟩
        · exact ⟨xs.length - (i + 1), by omega, rfl, hlt, _, acc', _, yr', o3, s3, l3, d3, a3, n3, by rw [ey, List.append_assoc]; rfl, hr⟩
        · obtain ⟨sg, x, ex, dx⟩ := J1.yld i (D :: M) H' v H4 o2.dom Si hlt hy
          rw [List.getElem?_eq_getElem hlt] at ex
          cases ex
          refine ⟨D, H', ri, _, ra, ts, hg, D :: M, o2.grow sg, dx, fun σ5 H5 o5 s5 f5 => ?_⟩
          have w5 : wipe σ5 vs = wipe σ vs := by
            rw [← wipe_wipe (σ := σ)]
            exact wipe_ext f5.1 fun j hj => f5.2 j fun z => hj (hts j z)
          refine ⟨w5, D, H', ra, true, rb, hT, D :: M, o5, fun H6 o6 s6 => iteT ?_⟩
          refine ⟨D, H', rb, w, rc, hE, D :: M, o6, fun u H7 o7 s7 d7 => ?_⟩
          have s47 := Same.trans (msk_grow (M := D :: M) sg) (Same.trans s5 (Same.trans s6 s7))
          have hU : ∀ u', Same (msk (D :: M) H7) (msk (D :: M) (upd H7 D u')) := fun u' => msk_mono fun b z hb e => by
            rw [upd_ne (fun y => hb (by rw [y]; exact List.mem_cons_self))]; exact e
          have o8 := ok_wipe (vs := vs) o7
          rw [w5] at o8
          refine ⟨acc, keepD o7, by omega, acc ++ [u], ok_push o8 hDM0 _, Same.trans s2 (Same.trans s47 (hU _)), fun a ha => ?_, upd_same, ?_, by simp; omega⟩
          · have hne : a ≠ D := fun z => hDL (by rw [← z]; exact ha)
            rw [upd_ne hne, (o7.lk a (List.mem_cons_of_mem _ ha)).2]
            exact l2 a ha
          · exact dpa_mono (hU _) _ _ (dpa_append (dpa_mono s47 _ _ a2) (.cons d7 .nil))
      · cases ew
    | @skip _ rx _ _ _ _ ht hr =>
      obtain ⟨ra, ts, rb, k, hg, hts, hT, hk⟩ := ht
      rcases hk with ⟨_, w', rc, ew, _⟩ | ⟨rfl, _, rfl⟩
      · cases ew
      · refine ⟨fun H3 => ∃ acc', Ok X.K (G.lock D H3) (D :: M) (wipeR rb vs) (wipe σ vs) H3 ∧ Same (msk M H1) (msk (D :: M) H3) ∧ (∀ a ∈ G.L, H3 a = G.HL a) ∧ H3 D = some (.lst acc') ∧ DqAll X.K (msk (D :: M) H3) acc' yd ∧ acc'.length ≤ i + 1, fun H3 ⟨acc', o3, s3, l3, d3, a3, n3⟩ => ?_, fun v H4 hy => ?_⟩
        · exact ⟨xs.length - (i + 1), by omega, rfl, hlt, _, acc', _, yr, o3, s3, l3, d3, a3, n3, ey, hr⟩
        · obtain ⟨sg, x, ex, dx⟩ := J1.yld i (D :: M) H' v H4 o2.dom Si hlt hy
          rw [List.getElem?_eq_getElem hlt] at ex
          cases ex
          refine ⟨D, H', ri, _, ra, ts, hg, D :: M, o2.grow sg, dx, fun σ5 H5 o5 s5 f5 => ?_⟩
          have w5 : wipe σ5 vs = wipe σ vs := by
            rw [← wipe_wipe (σ := σ)]
            exact wipe_ext f5.1 fun j hj => f5.2 j fun z => hj (hts j z)
          refine ⟨w5, D, H', ra, false, rb, hT, D :: M, o5, fun H6 o6 s6 => iteF ?_⟩
          have s46 := Same.trans (msk_grow (M := D :: M) sg) (Same.trans s5 s6)
          have o8 := ok_wipe (vs := vs) o6
          rw [w5] at o8
          exact ⟨acc, ok_relock o8, Same.trans s2 s46, fun a ha => ((o6.lk a (List.mem_cons_of_mem _ ha)).2).trans (l2 a ha), keepD o6, dpa_mono s46 _ _ a2, by omega⟩
  · have e : i = xs.length := by omega
    subst e
    rw [List.drop_length] at hc2
    cases hc2
    refine .inl ⟨J1.stop (D :: M) H' (J1.mono _ _ s2 S1), ?_⟩
    rw [List.append_nil] at ey
    subst ey
    have o9 := ok_done o1 o2 hDM s2 l2 hm
    exact q D acc H' o9 (Same.trans s1 (Same.trans s2 (msk_sub fun a ha => List.mem_cons_of_mem _ ha))) (by rw [msk_out hDM]; exact d2) hD0 a2
theorem dLc (hi : DI X G r tg iter xs r1) (hm : ∀ j ∈ own.map (·.2), ∀ ow zs, r1[j]? ≠ some (Sv.m ow zs)) (hc : CompR (CTurn X scope (own.map (·.2)) tg ifs elt) (wipeR r1 (own.map (·.2))) xs ys r2) (hz : xs.length ≤ sizeLine)
    (hN : X.N.Nodup) (hb : blkC X.N X.env.scope scope own = true) (hcm : X.calm = true := by rfl) (hs : ∀ x, foldedSetIterable iter X.env x = pure x := by intro _; rfl) :
    DE X G r (.ListComp elt [⟨tg, iter, ifs, 0⟩] scope pos) (.list ys) (mergeR r1 r2 (own.map (·.2))) :=
  pe_imp (pe_lc (own := own) (g := gCA X scope tg G) (tt := tCA X scope ifs G) (te := eCA X scope elt G) hcm hN hi (blkOk_by hb)
    (fun s H C cl fp => ⟨fun pins s' σ H' v u Q I rv ⟨D, H2, r, x, ra, ts, h, q⟩ => (h _ s H C cl fp).run pins s' σ H' v u Q I rv q⟩)
    (fun s H C cl fp => ⟨fun pins s' σ H' Q I ⟨D, H2, r, k, r', h, q⟩ => (h _ s H C cl fp).run pins s' σ H' Q I q⟩)
    (fun s H C cl fp => ⟨fun pins s' σ H' Q I ⟨D, H2, r, y, r', h, q⟩ => (h _ s H C cl fp).run pins s' σ H' Q I q⟩) hs) fun σ H Q ⟨M, o, q⟩ =>
    lcR hm hc hz o (fun D vs H' o' s' d' _ a' => q _ H' o' s' (.lst (SqL.of d') (dpa_mono (msk_sub fun a ha => List.mem_cons_of_mem _ ha) _ _ a'))) rfl
/-- name = [..] on one line -/
theorem sLc (i : Nat) {nm : Str} {py : Pos} {spos : Pos} (hi : DI X G r tg iter xs r1) (hm : ∀ j ∈ own.map (·.2), ∀ ow zs, r1[j]? ≠ some (Sv.m ow zs)) (hc : CompR (CTurn X scope (own.map (·.2)) tg ifs elt) (wipeR r1 (own.map (·.2))) xs ys r2) (hz : xs.length ≤ sizeLine)
    (hN : X.N.Nodup) (hb : blkC X.N X.env.scope scope own = true) (hsw : swapsWith (.ListComp elt [⟨tg, iter, ifs, 0⟩] scope pos) (some (.Name nm py)) spos.line X.env = pure true) (hy : X.N[i]? = some nm := by rfl) (hyl : X.env.scope.names.lookup nm = some .local := by rfl)
    (hcm : X.calm = true := by rfl) (hs : ∀ x, foldedSetIterable iter X.env x = pure x := by intro _; rfl) :
    DS X G r (.Assign [.Name nm py] (.ListComp elt [⟨tg, iter, ifs, 0⟩] scope pos) spos) (.nx ((mergeR r1 r2 (own.map (·.2))).set i (.d (.list ys)))) :=
  ps_imp (ps_setLc (own := own) (g := gCA X scope tg G) (tt := tCA X scope ifs G) (te := eCA X scope elt G) hcm hN hy hyl hsw hi (blkOk_by hb)
    (fun s H C cl fp => ⟨fun pins s' σ H' v u Q I rv ⟨D, H2, r, x, ra, ts, h, q⟩ => (h _ s H C cl fp).run pins s' σ H' v u Q I rv q⟩)
    (fun s H C cl fp => ⟨fun pins s' σ H' Q I ⟨D, H2, r, k, r', h, q⟩ => (h _ s H C cl fp).run pins s' σ H' Q I q⟩)
    (fun s H C cl fp => ⟨fun pins s' σ H' Q I ⟨D, H2, r, y, r', h, q⟩ => (h _ s H C cl fp).run pins s' σ H' Q I q⟩) hs) fun D σ H ⟨M, o, q⟩ =>
    lcR hm hc hz o (fun p vs H' o' s' d' _ a' => q M _ H' (o'.set (.lst (SqL.of d') (dpa_mono (msk_sub fun a ha => List.mem_cons_of_mem _ ha) _ _ a'))) s') rfl
end
end DL
end Sec_D4
section Sec_D5
set_option maxRecDepth 100000
/-! The data layer 5: calls. -/
namespace DL
open PySem PySem.Spec PyProof.Rows L2
/-! ### lists that may be changed -/
section
variable {K : PySem.W.Frag} {G : Fr0} {M : List Addr} {r : Rho} {σ : L2.St} {H H' : Hp}
/-- the list at slot j was changed, nothing else -/
theorem ok_mset (o : Ok K G M r σ H) {j : Nat} {ow : Bool} {us us' : List PyData} {a : Addr} {ws : List V} (hr : r[j]? = some (Sv.m ow us)) (hσ : σ[j]? = some (some (V.ref a))) (k : ∀ b u, b ≠ a → H b = some u → H' b = some u) (ha : H' a = some (.lst ws))
    (hw : DqAll K (msk M H') ws us') : Ok K G M (r.set j (.m ow us')) σ H' ∧ Same (msk M H) (msk M H') := by
  obtain ⟨a', vs, e1, e2, e3, e4, e5, e6, e7⟩ := o.mv j ow us hr
  rw [hσ] at e1
  cases e1
  have jl : j < r.length := by
    rcases Nat.lt_or_ge j r.length with z | z
    · exact z
    · rw [List.getElem?_eq_none z] at hr; cases hr
  have ms : Same (msk M H) (msk M H') := msk_mono fun b u hb e => k b u (fun z => hb (by rw [z]; exact e2)) e
  refine ⟨⟨o.sub, o.new, fun b hb => ?_, fun b u h1 h2 => ?_, by simp [o.len], fun i x e => ?_, fun i ow' xs e => ?_, fun i l ow' xs ow'' ys b f1 f2 f3 f4 => ?_, o.wm, fun b hb => ?_, fun i kvs e => ?_⟩, ms⟩
  · by_cases h : b = a
    · rw [h, ha]; exact fun z => by cases z
    · cases q : H b with
      | none => exact (o.dom b hb q).elim
      | some u => rw [k b u h q]; exact fun z => by cases z
  · by_cases h : b = a
    · subst h
      exfalso
      cases ow with
      | false => exact h1 (e7 rfl)
      | true =>
        have := o.new b e2 (e6 rfl)
        rw [this] at h2; cases h2
    · exact k b u h (o.fr b u h1 h2)
  · by_cases h : j = i
    · subst h
      rw [List.getElem?_set_self jl] at e; cases e
    · rw [List.getElem?_set_ne h] at e
      obtain ⟨v, f1, f2⟩ := o.sv i x e
      exact ⟨v, f1, dp_mono ms _ _ f2⟩
  · by_cases h : j = i
    · subst h
      rw [List.getElem?_set_self jl] at e
      cases e
      exact ⟨a, ws, hσ, e2, ha, hw, e5, e6, e7⟩
    · rw [List.getElem?_set_ne h] at e
      obtain ⟨b, vs', f1, f2, f3, f4, f5⟩ := o.mv i ow' xs e
      refine ⟨b, vs', f1, f2, k b _ (fun z => ?_) f3, dpa_mono ms _ _ f4, f5⟩
      subst z
      exact h (o.inj j i _ _ _ _ b hr e hσ f1)
  · have g : ∀ {i : Nat} {ow' : Bool} {xs : List PyData}, (r.set j (.m ow us'))[i]? = some (Sv.m ow' xs) → ∃ ow'' ys, r[i]? = some (Sv.m ow'' ys) := fun {i ow' xs} e => by
      by_cases h : j = i
      · subst h; exact ⟨_, _, hr⟩
      · rw [List.getElem?_set_ne h] at e; exact ⟨_, _, e⟩
    obtain ⟨_, _, g1⟩ := g f1
    obtain ⟨_, _, g2⟩ := g f2
    exact o.inj i l _ _ _ _ b g1 g2 f3 f4
  · obtain ⟨h1, h2⟩ := o.lk b hb
    refine ⟨h1, ?_⟩
    have h : b ≠ a := fun z => e5 (by rw [← z]; exact hb)
    rw [← h2]
    cases q : H b with
    | none => exact (o.dom b h1 q).elim
    | some u => exact k b u h q
  · by_cases h : j = i
    · subst h
      rw [List.getElem?_set_self jl] at e; cases e
    · rw [List.getElem?_set_ne h] at e
      obtain ⟨b, f1, f2⟩ := o.tv i kvs e
      exact ⟨b, f1, ms _ _ f2⟩
/-- a new list, from now on to be changed, at slot i -/
theorem ok_new (o : Ok K G M r σ H) {i : Nat} {p : Addr} {ws : List V} {us : List PyData} (hp : H p = none) (s : Same H H') (ha : H' p = some (.lst ws)) (hw : DqAll K (msk (p :: M) H') ws us) :
    Ok K G (p :: M) (r.set i (.m true us)) (σ.set i (some (.ref p))) H' ∧ Same (msk M H) (msk (p :: M) H') := by
  have pM : p ∉ M := o.nin hp
  have ms : Same (msk M H) (msk (p :: M) H') := fun b u e => by
    obtain ⟨h1, h2⟩ := msk_some e
    have hb : b ≠ p := fun z => by rw [z, hp] at h2; cases h2
    rw [msk_out (by simp [hb, h1])]; exact s b u h2
  have ne : ∀ {b : Addr}, b ∈ M → b ≠ p := fun {b} h z => pM (z ▸ h)
  have out : ∀ {j : Nat} {x : Sv}, (r.set i (.m true us))[j]? = some x → (j = i ∧ i < r.length ∧ x = .m true us) ∨ (i ≠ j ∧ r[j]? = some x) := fun {j x} e => by
    by_cases h : i = j
    · subst h
      by_cases hl : i < r.length
      · rw [List.getElem?_set_self hl] at e
        cases e
        exact .inl ⟨rfl, hl, rfl⟩
      · rw [List.getElem?_eq_none (by simpa using hl)] at e; cases e
    · rw [List.getElem?_set_ne h] at e
      exact .inr ⟨h, e⟩
  have self : i < r.length → (σ.set i (some (.ref p)))[i]? = some (some (V.ref p)) := fun h => List.getElem?_set_self (by rw [o.len]; exact h)
  refine ⟨⟨fun a h => List.mem_cons_of_mem _ (o.sub a h), fun a h hn => ?_, fun a h => ?_, fun a u h1 h2 => s _ _ (o.fr a u h1 h2), by simp [o.len], fun j x e => ?_, fun j ow xs e => ?_, fun j l ow xs ow' ys b f1 f2 f3 f4 => ?_, o.wm, fun b hb => ?_, fun j kvs e => ?_⟩, ms⟩
  · rcases List.mem_cons.mp h with z | z
    · subst z
      cases q : G.H0 a with
      | none => rfl
      | some u =>
        exfalso
        by_cases hw : a ∈ G.W0
        · exact hn (o.wm a hw)
        · have := o.fr a u hw q
          rw [hp] at this; cases this
    · exact o.new a z hn
  · rcases List.mem_cons.mp h with z | z
    · subst z; rw [ha]; exact fun z => by cases z
    · cases q : H a with
      | none => exact (o.dom a z q).elim
      | some u => rw [s a u q]; exact fun z => by cases z
  · rcases out e with ⟨_, _, z⟩ | ⟨h, z⟩
    · cases z
    · obtain ⟨v, f1, f2⟩ := o.sv j x z
      rw [List.getElem?_set_ne h]
      exact ⟨v, f1, dp_mono ms _ _ f2⟩
  · rcases out e with ⟨rfl, hl, z⟩ | ⟨h, z⟩
    · cases z
      exact ⟨p, ws, self hl, List.mem_cons_self, ha, hw, fun z => pM (o.lk p z).1, fun _ z => pM (o.sub p z), fun z => by cases z⟩
    · obtain ⟨b, vs, f1, f2, f3, f4, f5⟩ := o.mv j ow xs z
      rw [List.getElem?_set_ne h]
      exact ⟨b, vs, f1, List.mem_cons_of_mem _ f2, s _ _ f3, dpa_mono ms _ _ f4, f5⟩
  · rcases out f1 with ⟨rfl, hl, z⟩ | ⟨h, z⟩
    · rcases out f2 with ⟨rfl, hl2, z2⟩ | ⟨h2, z2⟩
      · rfl
      · exfalso
        rw [self hl] at f3
        cases f3
        rw [List.getElem?_set_ne h2] at f4
        obtain ⟨b', _, g1, g2, _⟩ := o.mv l ow' ys z2
        rw [f4] at g1; cases g1
        exact pM g2
    · rcases out f2 with ⟨rfl, hl2, z2⟩ | ⟨h2, z2⟩
      · exfalso
        rw [self hl2] at f4
        cases f4
        rw [List.getElem?_set_ne h] at f3
        obtain ⟨b', _, g1, g2, _⟩ := o.mv j ow xs z
        rw [f3] at g1; cases g1
        exact pM g2
      · rw [List.getElem?_set_ne h] at f3
        rw [List.getElem?_set_ne h2] at f4
        exact o.inj j l _ _ _ _ b z z2 f3 f4
  · obtain ⟨h1, h2⟩ := o.lk b hb
    refine ⟨List.mem_cons_of_mem _ h1, ?_⟩
    rw [← h2]
    cases q : H b with
    | none => exact (o.dom b h1 q).elim
    | some u => exact s b u q
  · rcases out e with ⟨_, _, z⟩ | ⟨h, z⟩
    · cases z
    · obtain ⟨b, f1, f2⟩ := o.tv j kvs z
      rw [List.getElem?_set_ne h]
      exact ⟨b, f1, ms _ _ f2⟩
end
section
variable {X : Cx} {G : Fr0} {r r1 r2 r3 r' : Rho} {a b c e : Expr} {es : List Expr} {pos : Pos} {i j : Int} {x y z : PyData} {xs ys us vs : List PyData} {k : Bool}
/-- a new list under a name, to be changed -/
theorem sNewL (i : Nat) {nm : Str} {p' lp : Pos} (hl : xs.length ≤ sizeLine) (h : DA X G r es xs r1) (hN : X.N.Nodup) (hi : X.N[i]? = some nm := by rfl) (hx : Loc X.env.scope nm := by first | exact Or.inl rfl | exact Or.inr rfl)
    (hs : swapsWith (.List es lp) (some (.Name nm p')) pos.line X.env = pure false := by rfl) (hf : X.fn nm = true ∨ X.env.scope.names.lookup nm = some .local := by first | exact .inl rfl | exact .inr rfl) : DS X G r (.Assign [.Name nm p'] (.List es lp) pos) (.nx (r1.set i (.m true xs))) :=
  ps_imp (ps_set hN hi hx (pe_lst h) hs hf) fun D σ H ⟨M, o, q⟩ => ⟨M, o, fun vs H1 o1 s1 dx => ⟨by rw [dpa_length dx]; exact hl, fun p hp => by
    have ms : Same (msk M H1) (msk (p :: M) (upd H1 p (.lst vs))) := fun b u e => by
      obtain ⟨h1, h2⟩ := msk_some e
      have hb : b ≠ p := fun z => by rw [z, hp] at h2; cases h2
      rw [msk_out (by simp [hb, h1]), upd_ne hb]; exact h2
    obtain ⟨o2, s2⟩ := ok_new (i := i) o1 hp (same_new hp) upd_same (dpa_mono ms _ _ dx)
    exact q _ _ _ o2 (Same.trans s1 s2)⟩⟩
/-- a, b = [], [] -/
theorem sNew2 (i j : Nat) {n1 n2 : Str} {px py pt l1 l2 : Pos} {kt k2 pt2} (hN : X.N.Nodup) (hij : i ≠ j := by decide) (hi : X.N[i]? = some n1 := by rfl) (hj : X.N[j]? = some n2 := by rfl)
    (hx : X.env.scope.names.lookup n1 = some .local := by rfl) (hy : X.env.scope.names.lookup n2 = some .local := by rfl) (hc : X.calm = true := by rfl)
    (hw : swappedStores [.Tuple [.Name n1 px, .Name n2 py] kt pt] (.Tuple [.List [] l1, .List [] l2] k2 pt2) X.env = pure (some [n1, n2]) := by rfl)
    (hs : swapsWithSole [.Tuple [.Name n1 px, .Name n2 py] kt pt] (.Tuple [.List [] l1, .List [] l2] k2 pt2) pos.line X.env = pure false := by rfl) :
    DS X G r (.Assign [.Tuple [.Name n1 px, .Name n2 py] kt pt] (.Tuple [.List [] l1, .List [] l2] k2 pt2) pos) (.nx ((r.set i (.m true [])).set j (.m true []))) :=
  ps_imp (ps_par hc hN hi hj hij hx hy (pa_cons (pe_lst pa_nil) (pa_cons (pe_lst pa_nil) pa_nil)) hw hs) fun D σ H ⟨M, o, q⟩ => ⟨Nat.zero_le _, fun p hp => ⟨Nat.zero_le _, fun p2 hp2 => ⟨_, _, rfl, by
    obtain ⟨o1, s1⟩ := ok_new (i := i) o hp (same_new hp) upd_same .nil
    obtain ⟨o2, s2⟩ := ok_new (i := j) o1 hp2 (same_new hp2) upd_same .nil
    exact q _ _ _ o2 (Same.trans s1 s2)⟩⟩⟩
/-- an int, and the heap stays -/
def Sm (X : Cx) (r : Rho) (e : Expr) (n : Int) : Prop := ∃ te, PE X e te ∧ ∀ (σ : L2.St) (H : Hp) (Q : VK), (∀ (i : Nat) (m : Int), r[i]? = some (Sv.d (.int m)) → σ[i]? = some (some (V.int m))) → Q (.int n) H → te σ H Q
theorem mv (n : Nat) {nm : Str} {m : Int} (hr : r[n]? = some (Sv.d (.int m)) := by rfl) (hN : X.N[n]? = some nm := by rfl) (hv : Vis X.env.scope nm := by first | exact Or.inl rfl | exact Or.inr (Or.inl rfl) | exact Or.inr (Or.inr rfl))
    (hd : (nm == ("__debug__" : Str)) = false := by decide) (hcd : (nm == ("__classdict__" : Str)) = false := by decide) : Sm X r (.Name nm pos) m := ⟨_, pe_var hN hv hd hcd, fun σ H Q h q => ⟨_, h n m hr, q⟩⟩
theorem mi {kk} : Sm X r (.Constant (.int i) kk pos) i := ⟨_, pe_int, fun σ H Q h q => q⟩
theorem mMul (hc : CMul i j) (ha : Sm X r a i) (hb : Sm X r b j) : Sm X r (.BinOp a .Mult b pos) (i * j) := by
  obtain ⟨t, p, h⟩ := ha
  obtain ⟨u, p2, h2⟩ := hb
  exact ⟨_, pe_op op_mul p p2, fun σ H Q hs q => h σ H _ hs (h2 σ H _ hs ⟨i, j, rfl, rfl, hc, q⟩)⟩
theorem mSub (ha : Sm X r a i) (hb : Sm X r b j) : Sm X r (.BinOp a .Sub b pos) (i - j) := by
  obtain ⟨t, p, h⟩ := ha
  obtain ⟨u, p2, h2⟩ := hb
  exact ⟨_, pe_op op_sub p p2, fun σ H Q hs q => h σ H _ hs (h2 σ H _ hs ⟨i, j, rfl, rfl, q⟩)⟩
/-- a, b, c = [], [m, n], k -/
theorem sNew3 (i j l : Nat) {n1 n2 n3 : Str} {px py pz pt l1 l2 : Pos} {kt k2 pt2} {d1 d2 : Expr} {m n kk : Int} (h1 : Sm X r d1 m) (h2 : Sm X r d2 n) (he : Sm X r e kk) (hN : X.N.Nodup) (hij : i ≠ j := by decide) (hil : i ≠ l := by decide) (hjl : j ≠ l := by decide) (hi : X.N[i]? = some n1 := by rfl) (hj : X.N[j]? = some n2 := by rfl) (hll : X.N[l]? = some n3 := by rfl)
    (hx : X.env.scope.names.lookup n1 = some .local := by rfl) (hy : X.env.scope.names.lookup n2 = some .local := by rfl) (hz : X.env.scope.names.lookup n3 = some .local := by rfl) (hc : X.calm = true := by rfl)
    (hw : swappedStores [.Tuple [.Name n1 px, .Name n2 py, .Name n3 pz] kt pt] (.Tuple [.List [] l1, .List [d1, d2] l2, e] k2 pt2) X.env = pure (some [n1, n2, n3]) := by rfl)
    (hs : swapsWithSole [.Tuple [.Name n1 px, .Name n2 py, .Name n3 pz] kt pt] (.Tuple [.List [] l1, .List [d1, d2] l2, e] k2 pt2) pos.line X.env = pure false := by rfl)
    (e0 : starEach [.List [] l1, .List [d1, d2] l2, e] X.env = (false, eval (.List [] l1) X.env) :: starEach [.List [d1, d2] l2, e] X.env := by rfl)
    (e1 : starEach [.List [d1, d2] l2, e] X.env = (false, eval (.List [d1, d2] l2) X.env) :: starEach [e] X.env := by rfl) (e2 : starEach [e] X.env = (false, eval e X.env) :: starEach [] X.env := by rfl)
    (e3 : starEach [d1, d2] X.env = (false, eval d1 X.env) :: starEach [d2] X.env := by rfl) (e4 : starEach [d2] X.env = (false, eval d2 X.env) :: starEach [] X.env := by rfl) :
    DS X G r (.Assign [.Tuple [.Name n1 px, .Name n2 py, .Name n3 pz] kt pt] (.Tuple [.List [] l1, .List [d1, d2] l2, e] k2 pt2) pos) (.nx (((r.set i (.m true [])).set j (.m true [.int m, .int n])).set l (.d (.int kk)))) := by
  obtain ⟨t1, p1, f1⟩ := h1
  obtain ⟨t2, p2, f2⟩ := h2
  obtain ⟨t3, p3, f3⟩ := he
  refine ps_imp (ps_par3 hc hN hi hj hll hij hil hjl hx hy hz (pa_cons (pe_lst pa_nil) (pa_cons (pe_lst (pa_cons p1 (pa_cons p2 pa_nil e4) e3)) (pa_cons p3 pa_nil e2) e1) e0) hw hs) fun D σ H ⟨M, o, q⟩ => ⟨Nat.zero_le _, fun p hp => ?_⟩
  have hnum : ∀ (i : Nat) (m : Int), r[i]? = some (Sv.d (.int m)) → σ[i]? = some (some (V.int m)) := fun i m e => by
    obtain ⟨v, g1, g2⟩ := o.sv i _ e
    cases g2
    exact g1
  refine f1 σ _ _ hnum (f2 σ _ _ hnum ⟨by show 2 ≤ sizeLine; decide, fun p2 hp2 => f3 σ _ _ hnum ⟨_, _, _, rfl, ?_⟩⟩)
  obtain ⟨o1, s1⟩ := ok_new (i := i) o hp (same_new hp) upd_same .nil
  obtain ⟨o2, s2⟩ := ok_new (i := j) (us := [.int m, .int n]) o1 hp2 (same_new hp2) upd_same (.cons (.int m) (.cons (.int n) .nil))
  exact q _ _ _ (o2.set (.int kk)) (Same.trans s1 s2)

/-! ### stores, append -/
theorem sMst (j : Nat) {nm : Str} {np sp : Pos} {ow : Bool} {k : Int} {n : Nat} (h : DE X G r e x r1) (hk : DE X G r1 b (.int k) r1) (hx : ixN us.length k = some n) (hr : r1[j]? = some (Sv.m ow us) := by rfl) (hN : X.N[j]? = some nm := by rfl)
    (hv : Vis X.env.scope nm := by first | exact Or.inl rfl | exact Or.inr (Or.inl rfl) | exact Or.inr (Or.inr rfl)) (hd : (nm == ("__debug__" : Str)) = false := by decide) (hcd : (nm == ("__classdict__" : Str)) = false := by decide)
    (ha : ∀ v, assign (.Subscript (.Name nm np) b sp) X.env v = (do
      let ov ← holding [v] (eval (.Name nm np) X.env)
      let iv ← holding [v, ov] (eval b X.env)
      standAt sp
      holding [v, ov, iv] (setItem ov iv v)
      release [v, ov, iv] []) := by intro _; rfl)
    (hs : swapsWithSole [.Subscript (.Name nm np) b sp] e pos.line X.env = pure false := by rfl) (hw : swappedStores [.Subscript (.Name nm np) b sp] e X.env = pure none := by rfl)
    (h1 : (assignEach [.Subscript (.Name nm np) b sp] X.env).map (·.2) = [assign (.Subscript (.Name nm np) b sp) X.env] := by rfl) : DS X G r (.Assign [.Subscript (.Name nm np) b sp] e pos) (.nx (r1.set j (.m ow (us.set n x)))) :=
  ps_imp (ps_asg h (pg_sub (pe_var hN hv hd hcd) hk set_list ha) hs hw h1) fun D σ H ⟨M, o, q⟩ => ⟨M, o, fun v H1 o1 s1 dx => by
    obtain ⟨a, ws, f1, f2, f3, f4, _⟩ := o1.mv j ow us hr
    refine ⟨_, f1, M, o1, fun i' H2 o2 s2 d2 => ?_⟩
    cases d2
    obtain ⟨a', ws', g1, g2, g3, g4, _⟩ := o2.mv j ow us hr
    rw [f1] at g1
    cases g1
    refine ⟨a, ws', k, n, rfl, rfl, g3, by rw [dpa_length g4]; exact hx, ?_⟩
    have ms : Same (msk M H2) (msk M (upd H2 a (.lst (ws'.set n v)))) := msk_mono fun c u hc e => by
      rw [upd_ne (fun z => hc (by rw [z]; exact g2))]; exact e
    obtain ⟨o3, s3⟩ := ok_mset (us' := us.set n x) o2 hr f1 (fun c u hc e => by rw [upd_ne hc]; exact e) upd_same (dpa_mono ms _ _ (dpa_set n g4 (dp_mono s2 _ _ dx)))
    exact q _ _ _ o3 (Same.trans s1 (Same.trans s2 s3))⟩
theorem sApp (j : Nat) {nm : Str} {np ap cp : Pos} {ow : Bool} (h : DE X G r e x r1) (hl : us.length < sizeLine) (hr : r1[j]? = some (Sv.m ow us) := by rfl) (hr0 : ∃ ow us, r[j]? = some (Sv.m ow us) := by exact ⟨_, _, rfl⟩) (hN : X.N[j]? = some nm := by rfl)
    (hv : Vis X.env.scope nm := by first | exact Or.inl rfl | exact Or.inr (Or.inl rfl) | exact Or.inr (Or.inr rfl)) (hd : (nm == ("__debug__" : Str)) = false := by decide) (hcd : (nm == ("__classdict__" : Str)) = false := by decide)
    (hbase : attributeBase (.Name nm np) "append" X.env (eval (.Name nm np) X.env) = eval (.Name nm np) X.env := by rfl)
    (hfew : ((backTo cp (starEach [e] X.env)).all (fun x => !x.1) && (backToKw cp (keywordEach [] X.env)).all (fun x => x.1.isSome) && decide ([e].length + ([] : List Keyword).length + (if ([] : List Keyword).isEmpty then 0 else 1) < 30)) = true := by rfl)
    (hline : (ap.endLine == cp.line) = true := by rfl) (hs1 : starEach [e] X.env = (false, eval e X.env) :: starEach [] X.env := by rfl) (hplain : (backTo cp (starEach [] X.env)).any (·.1) = false := by rfl)
    (hs : swapsWith (.Call (.Attribute (.Name nm np) "append" ap) [e] [] cp) none pos.line X.env = pure false := by rfl) :
    DS X G r (.Expr (.Call (.Attribute (.Name nm np) "append" ap) [e] [] cp) pos) (.nx (r1.set j (.m ow (us ++ [x])))) :=
  ps_imp (ps_expr (pe_bm PySem.F.plainAttrs_list PySem.F.slot_list_append PySem.F.type_list_append mt_append (pe_var hN hv hd hcd) (pa_cons h pa_nil hs1) hbase hfew hline hs1 hplain) hs) fun D σ H ⟨M, o, q⟩ => by
    obtain ⟨ow0, us0, hr0⟩ := hr0
    obtain ⟨a, ws, f1, f2, f3, f4, _⟩ := o.mv j ow0 us0 hr0
    refine ⟨_, f1, Or.inl ⟨rfl, ws, SqL.of f3⟩, M, o, fun v H1 o1 s1 dx => ?_⟩
    obtain ⟨a', ws', g1, g2, g3, g4, _⟩ := o1.mv j ow us hr
    rw [f1] at g1
    cases g1
    refine ⟨a, ws', v, rfl, rfl, g3, by rw [dpa_length g4]; exact hl, ?_⟩
    have ms : Same (msk M H1) (msk M (upd H1 a (.lst (ws' ++ [v])))) := msk_mono fun c u hc e => by
      rw [upd_ne (fun z => hc (by rw [z]; exact g2))]; exact e
    obtain ⟨o3, s3⟩ := ok_mset (us' := us ++ [x]) o1 hr f1 (fun c u hc e => by rw [upd_ne hc]; exact e) upd_same (dpa_mono ms _ _ (dpa_append g4 (.cons dx .nil)))
    exact q _ _ _ o3 (Same.trans s1 s3)

/-! ### built-ins -/
theorem aOne (h : DE X G r e x r1) (hs : starEach [e] X.env = (false, eval e X.env) :: starEach [] X.env) : DA X G r [e] [x] r1 := aC h aN hs
variable {p : Pos}
theorem dLen (hm : X.mg "len" = none) (hx : x = .list xs ∨ x = .tuple xs) (h : DA X G r [e] [x] r1) (hg : Gl X "len" := by rfl) (he : starEach [e] X.env = (false, eval e X.env) :: starEach [] X.env := by rfl) (hpl : (backTo pos (starEach [] X.env)).any (·.1) = false := by rfl) :
    DE X G r (.Call (.Name "len" p) [e] [] pos) (.int xs.length) r1 :=
  pe_imp (pe_callB call_len_seq hg hm PySem.boot_len h (he := he) (hpl := hpl)) fun σ H Q ⟨M, o, q⟩ => ⟨M, o, fun vs H1 o1 s1 dx => by
    cases dx with
    | cons d1 d2 =>
      cases d2
      rcases hx with rfl | rfl
      · cases d1 with
        | @lst a ws _ hs ha =>
          refine ⟨a, ws, rfl, .inl (Same.seq msk_le hs), ?_⟩
          rw [dpa_length ha]
          exact q _ H1 o1 s1 (.int _)
      · cases d1 with
        | @tup a ws _ hs ha =>
          refine ⟨a, ws, rfl, .inr ((hs.mono msk_le).t), ?_⟩
          rw [dpa_length ha]
          exact q _ H1 o1 s1 (.int _)⟩
/-- a built-in of scalars, by its rule -/
theorem dB {id : String} {nm : Str} {f : List V → Hp → VK → Prop} {ds : List PyData} (hc : CallR X (.builtin id) f) (hm : X.mg nm = none) (hv : bootBuiltins nm = some (.builtin id)) (h : DA X G r (e :: es) ds r1) (hf : ∀ M vs H (Q : VK), DqAll X.K (msk M H) vs ds → (∀ v, (∀ H, Dq X.K H v x) → Q v H) → f vs H Q)
    (hg : Gl X nm := by rfl) (hn : nm ≠ "__name__" := by decide) (hdb : (nm == ("__debug__" : Str)) = false := by decide) (he : starEach (e :: es) X.env = (false, eval e X.env) :: starEach es X.env := by rfl) (hpl : (backTo pos (starEach es X.env)).any (·.1) = false := by rfl) :
    DE X G r (.Call (.Name nm p) (e :: es) [] pos) x r1 :=
  pe_imp (pe_callB hc hg hm hv h hn hdb he hpl) fun σ H Q ⟨M, o, q⟩ => ⟨M, o, fun vs H1 o1 s1 dx => hf M vs H1 Q dx fun v dv => q v H1 o1 s1 (dv _)⟩
theorem dTy {T : String} {nm : Str} {f : List V → Hp → VK → Prop} {ds : List PyData} (hc : CallR X (.type T) f) (hm : X.mg nm = none) (hv : bootBuiltins nm = some (.type T)) (h : DA X G r (e :: es) ds r1) (hf : ∀ M vs H (Q : VK), DqAll X.K (msk M H) vs ds → (∀ v, (∀ H, Dq X.K H v x) → Q v H) → f vs H Q)
    (hg : Gl X nm := by rfl) (hn : nm ≠ "__name__" := by decide) (hdb : (nm == ("__debug__" : Str)) = false := by decide) (he : starEach (e :: es) X.env = (false, eval e X.env) :: starEach es X.env := by rfl) (hpl : (backTo pos (starEach es X.env)).any (·.1) = false := by rfl) :
    DE X G r (.Call (.Name nm p) (e :: es) [] pos) x r1 :=
  pe_imp (pe_callTy hc hg hm hv h hn hdb he hpl) fun σ H Q ⟨M, o, q⟩ => ⟨M, o, fun vs H1 o1 s1 dx => hf M vs H1 Q dx fun v dv => q v H1 o1 s1 (dv _)⟩
theorem dpa1 {K : PySem.W.Frag} {H : Hp} {vs : List V} {x : PyData} (h : DqAll K H vs [x]) : ∃ v, vs = [v] ∧ Dq K H v x := by
  cases h with
  | cons h1 h2 => cases h2; exact ⟨_, rfl, h1⟩
theorem dpa2 {K : PySem.W.Frag} {H : Hp} {vs : List V} {x y : PyData} (h : DqAll K H vs [x, y]) : ∃ v w, vs = [v, w] ∧ Dq K H v x ∧ Dq K H w y := by
  cases h with
  | cons h1 h2 =>
    obtain ⟨w, rfl, h3⟩ := dpa1 h2
    exact ⟨_, _, rfl, h1, h3⟩
theorem fI1 {g : Int → V} {z : PyData} (hz : ∀ H, Dq X.K H (g i) z) : ∀ M vs H (Q : VK), DqAll X.K (msk M H) vs [.int i] → (∀ v, (∀ H, Dq X.K H v z) → Q v H) → (fun xs H (Q : VK) => ∃ i, xs = [.int i] ∧ Q (g i) H) vs H Q := fun M vs H Q dx q => by
  obtain ⟨v, rfl, d⟩ := dpa1 dx
  cases d
  exact ⟨i, rfl, q _ hz⟩
theorem fI2 {g : Int → Int → V} {z : PyData} (hz : ∀ H, Dq X.K H (g i j) z) : ∀ M vs H (Q : VK), DqAll X.K (msk M H) vs [.int i, .int j] → (∀ v, (∀ H, Dq X.K H v z) → Q v H) → (fun xs H (Q : VK) => ∃ i j, xs = [.int i, .int j] ∧ Q (g i j) H) vs H Q := fun M vs H Q dx q => by
  obtain ⟨v, w, rfl, d, d'⟩ := dpa2 dx
  cases d; cases d'
  exact ⟨i, j, rfl, q _ hz⟩
theorem dAbs (hm : X.mg "abs" = none) (h : DA X G r [e] [.int i] r1) (hg : Gl X "abs" := by rfl) (he : starEach [e] X.env = (false, eval e X.env) :: starEach [] X.env := by rfl) (hpl : (backTo pos (starEach [] X.env)).any (·.1) = false := by rfl) :
    DE X G r (.Call (.Name "abs" p) [e] [] pos) (.int (if i < 0 then -i else i)) r1 := dB call_abs hm (by decide +kernel) h (fI1 fun _ => .int _) hg (he := he) (hpl := hpl)
theorem dMax (hm : X.mg "max" = none) (h : DA X G r [a, b] [.int i, .int j] r1) (hc : X.calm = true := by rfl) (hg : Gl X "max" := by rfl) (he : starEach [a, b] X.env = (false, eval a X.env) :: starEach [b] X.env := by rfl) (hpl : (backTo pos (starEach [b] X.env)).any (·.1) = false := by rfl) :
    DE X G r (.Call (.Name "max" p) [a, b] [] pos) (.int (if j > i then j else i)) r1 := dB (call_max2 hc) hm (by decide +kernel) h (fI2 fun _ => .int _) hg (he := he) (hpl := hpl)
theorem dMin (hm : X.mg "min" = none) (h : DA X G r [a, b] [.int i, .int j] r1) (hc : X.calm = true := by rfl) (hg : Gl X "min" := by rfl) (he : starEach [a, b] X.env = (false, eval a X.env) :: starEach [b] X.env := by rfl) (hpl : (backTo pos (starEach [b] X.env)).any (·.1) = false := by rfl) :
    DE X G r (.Call (.Name "min" p) [a, b] [] pos) (.int (if j < i then j else i)) r1 := dB (call_min2 hc) hm (by decide +kernel) h (fI2 fun _ => .int _) hg (he := he) (hpl := hpl)
theorem dInt (hm : X.mg "int" = none) (h : DA X G r [e] [.int i] r1) (hg : Gl X "int" := by rfl) (he : starEach [e] X.env = (false, eval e X.env) :: starEach [] X.env := by rfl) (hpl : (backTo pos (starEach [] X.env)).any (·.1) = false := by rfl) :
    DE X G r (.Call (.Name "int" p) [e] [] pos) (.int i) r1 := dTy call_int1 hm (by decide +kernel) h (fun M vs H Q dx q => by
  obtain ⟨v, rfl, d⟩ := dpa1 dx
  cases d
  exact .inl ⟨i, rfl, q _ fun _ => .int _⟩) hg (he := he) (hpl := hpl)
theorem dIntB (hm : X.mg "int" = none) (h : DA X G r [e] [.bool k] r1) (hg : Gl X "int" := by rfl) (he : starEach [e] X.env = (false, eval e X.env) :: starEach [] X.env := by rfl) (hpl : (backTo pos (starEach [] X.env)).any (·.1) = false := by rfl) :
    DE X G r (.Call (.Name "int" p) [e] [] pos) (.int (if k = true then 1 else 0)) r1 := dTy call_int1 hm (by decide +kernel) h (fun M vs H Q dx q => by
  obtain ⟨v, rfl, d⟩ := dpa1 dx
  cases d
  exact .inr ⟨k, rfl, q _ fun _ => .int _⟩) hg (he := he) (hpl := hpl)
/-- all(list of bools) -/
theorem dAll {bs : List Bool} (hm : X.mg "all" = none) (h : DA X G r [e] [.list (bs.map .bool)] r1) (hc : X.calm = true := by rfl) (hg : Gl X "all" := by rfl) (he : starEach [e] X.env = (false, eval e X.env) :: starEach [] X.env := by rfl) (hpl : (backTo pos (starEach [] X.env)).any (·.1) = false := by rfl) :
    DE X G r (.Call (.Name "all" p) [e] [] pos) (.bool (bs.all id)) r1 := dB (cr_all hc) hm (by decide +kernel) h (fun M vs H Q dx q => by
  obtain ⟨v, rfl, d⟩ := dpa1 dx
  cases d with
  | @lst a ws _ hs ha =>
    have := dpa_bls ha
    subst this
    exact ⟨a, bs, rfl, Same.seq msk_le hs, q _ fun _ => .bl _⟩) hg (he := he) (hpl := hpl)
/-- isinstance(x, T) -/
def tag : PyData → String
  | .none => "NoneType"
  | .bool _ => "bool"
  | .int _ => "int"
  | .str _ => "str"
  | .list _ => "list"
  | .tuple _ => "tuple"
  | .dict _ => "dict"
theorem tyx {H : Hp} {v : V} (h : Dq X.K H v x) : TyX X.K H v (.type (tag x)) := by
  cases h with
  | non => exact .base .non
  | bl b => exact .base (.bl b)
  | int i => exact .base (.int i)
  | str y => exact .base (.str y)
  | lst hs ha =>
    rcases hs with (hs | ⟨o, hs⟩) | ⟨o, its, n, h1, h2, _⟩
    · exact .base (.lst hs)
    · exact .base (.frz hs)
    · exact .kList h1 h2
  | tup hs ha =>
    rcases hs.t with (hs | ⟨o, hs⟩) | ⟨o, its, n, h1, h2, _⟩
    · exact .base (.tup hs)
    · exact .fTuple hs
    · exact .kTuple h1 h2
theorem dIsi {T : String} {nm : Str} {np : Pos} {res : Bool} (hm : X.mg "isinstance" = none) (hm2 : X.mg nm = none) (hT : bootBuiltins nm = some (.type T)) (h : DE X G r e x r1) (hk : kitB (tag x) T = some res) (hg : Gl X "isinstance" := by rfl) (hg2 : Gl X nm := by rfl)
    (hn : nm ≠ "__name__" := by decide) (hd : (nm == ("__debug__" : Str)) = false := by decide)
    (he : starEach [e, .Name nm np] X.env = (false, eval e X.env) :: starEach [.Name nm np] X.env := by rfl) (he2 : starEach [.Name nm np] X.env = (false, eval (.Name nm np) X.env) :: starEach [] X.env := by rfl) (hpl : (backTo pos (starEach [.Name nm np] X.env)).any (·.1) = false := by rfl) :
    DE X G r (.Call (.Name "isinstance" p) [e, .Name nm np] [] pos) (.bool res) r1 :=
  pe_imp (pe_callB call_isi hg hm (by decide +kernel) (pa_cons h (pa_cons (pe_bltn (v := .ty T) hg2 hm2 hT rfl hn hd) pa_nil he2) he) (he := he) (hpl := hpl)) fun σ H Q ⟨M, o, q⟩ => ⟨M, o, fun v H1 o1 s1 dx =>
    ⟨v, .ty T, _, _, res, rfl, .ty T, tyx (dp_mono msk_le _ _ dx), kit_ty hk, q _ H1 o1 s1 (.bl _)⟩⟩
/-- tuple(list) -/
theorem dTupOf (hm : X.mg "tuple" = none) (h : DE X G r e (.list xs) r1) (hg : Gl X "tuple" := by rfl) (na : starEach [e] X.env = (false, eval e X.env) :: starEach [] X.env := by rfl) : DE X G r (.Call (.Name "tuple" p) [e] [] pos) (.tuple xs) r1 :=
  pe_imp (pe_callTy call_tuple_ofX hg hm PyProof.Rows.boot_tuple (aOne h na) (by decide) (by decide) na (by rfl)) fun σ H Q ⟨M, o, q⟩ => ⟨M, o, fun vs H1 o1 s1 dx => by
    obtain ⟨v, rfl, dy⟩ := dpa1 dx
    cases dy with
    | @lst a ws _ hs ha =>
      exact ⟨a, ws, rfl, Same.seq msk_le hs, fun p o hp ho => q _ _ (o1.laid hp) (Same.trans s1 (msk_grow (same_new hp))) (.tup (SqX.of (msk_new o1 hp) ho) (dpa_mono (msk_grow (same_new hp)) _ _ ha))⟩⟩
theorem dpa_rg {K : PySem.W.Frag} {H : Hp} (lo hi : Int) : DqAll K H (rgV lo hi) (rgD lo (hi - lo).toNat) := by
  unfold rgV rgD
  generalize (hi - lo).toNat = n
  have : ∀ l : List Nat, DqAll K H (l.map fun (i : Nat) => V.int (lo + i)) (l.map fun (i : Nat) => PyData.int (lo + i)) := by
    intro l
    induction l with
    | nil => exact .nil
    | cons a l ih => exact .cons (.int _) ih
  exact this _
/-- list(range(a, b)) -/
theorem dLstRg {rp p2 : Pos} (hm : X.mg "list" = none) (hm2 : X.mg "range" = none) (ha : DE X G r a (.int i) r1) (hb : DE X G r1 b (.int j) r2) (ok : RgOk i j) (hc : X.calm = true := by rfl) (hg : Gl X "list" := by rfl) (hg2 : Gl X "range" := by rfl)
    (na : starEach [a, b] X.env = (false, eval a X.env) :: starEach [b] X.env := by rfl) (nb : starEach [b] X.env = (false, eval b X.env) :: starEach [] X.env := by rfl) (hp : (backTo p2 (starEach [b] X.env)).any (·.1) = false := by rfl)
    (nc : starEach [.Call (.Name "range" rp) [a, b] [] p2] X.env = (false, eval (.Call (.Name "range" rp) [a, b] [] p2) X.env) :: starEach [] X.env := by rfl) :
    DE X G r (.Call (.Name "list" p) [.Call (.Name "range" rp) [a, b] [] p2] [] pos) (.list (rgD i (j - i).toNat)) r2 :=
  pe_imp (pe_listRg hc hg hm (prg_2 hg2 hm2 ha hb na nb hp) nc) fun σ H Q ⟨M, o, q⟩ => ⟨M, o, fun v H1 o1 s1 dx => ⟨M, o1, fun w H2 o2 s2 dy => by
    cases dx; cases dy
    exact ⟨i, j, rfl, rfl, ok, fun p hp => q _ _ (o2.laid hp) (Same.trans (Same.trans s1 s2) (msk_grow (same_new hp))) (.lst (SqL.of (msk_new o2 hp)) (dpa_rg i j))⟩⟩⟩
end
end DL
end Sec_D5
section Sec_D6
set_option maxRecDepth 100000
/-! The data layer 6: own defs, called and proved. -/
namespace DL
open PySem PySem.Spec PyProof.Rows L2
/-! ### promises -/
/-- asked with the data ds, it answers d -/
def sp1 (K : PySem.W.Frag) (ds : List PyData) (d : PyData) : Sp := fun vs H Q _ => ∃ M : List Addr, (∀ a ∈ M, H a ≠ none) ∧ DqAll K (msk M H) vs ds ∧ ∀ v H', Same H H' → Dq K (msk M H') v d → Q v H'
/-- the same, where the first argument is a list us that may be changed, then us' -/
def sp2 (K : PySem.W.Frag) (us ds : List PyData) (d : PyData) (us' : List PyData) : Sp := fun vs H Q _ => ∃ (M : List Addr) (p : Addr) (ws vs' : List V), vs = .ref p :: vs' ∧ p ∈ M ∧ (∀ a ∈ M, H a ≠ none) ∧ H p = some (.lst ws) ∧ DqAll K (msk M H) ws us ∧
  DqAll K (msk M H) vs' ds ∧ ∀ v H' ws', (∀ b u, b ≠ p → H b = some u → H' b = some u) → H' p = some (.lst ws') → DqAll K (msk M H') ws' us' → Dq K (msk M H') v d → Q v H'
/-- it answers with a new list -/
def sp3 (K : PySem.W.Frag) (ds us : List PyData) : Sp := fun vs H Q _ => ∃ M : List Addr, (∀ a ∈ M, H a ≠ none) ∧ DqAll K (msk M H) vs ds ∧ ∀ p H' ws, H p = none → Same H H' → H' p = some (.lst ws) → DqAll K (msk (p :: M) H') ws us → Q (.ref p) H'
section
variable (P : Program) (w : World) (K : PySem.W.Frag) (mg : Str → Option Value) (base : Heap) (k : Nat) (x : Str)
def CalP (sp : Sp) : Prop := ∃ f fd ps, mg x = some (.ref f) ∧ PySem.W.keepIn K (.ref f) = true ∧ Binds K fd ps [] ∧ FnOk P w K mg base CX0 k f fd ps sp
def Cal (ds : List PyData) (d : PyData) : Prop := CalP P w K mg base k x (sp1 K ds d)
def CalB (us ds : List PyData) (d : PyData) (us' : List PyData) : Prop := CalP P w K mg base k x (sp2 K us ds d us')
def CalF (ds us : List PyData) : Prop := CalP P w K mg base k x (sp3 K ds us)
end
theorem CalP.mono {P : Program} {w : World} {K : PySem.W.Frag} {mg : Str → Option Value} {base : Heap} {j k : Nat} {x : Str} {sp : Sp} (h : CalP P w K mg base j x sp) (hj : j ≤ k := by decide) : CalP P w K mg base k x sp := by
  obtain ⟨f, fd, ps, h1, h2, h3, h4⟩ := h
  exact ⟨f, fd, ps, h1, h2, h3, h4.mono hj⟩
section
variable {X : Cx} {G : Fr0} {r r1 r2 r3 r' : Rho} {a b c e : Expr} {es : List Expr} {pos p : Pos} {i j : Int} {x y z : PyData} {xs ys us us' : List PyData} {k : Nat} {f : Str}
theorem dCall (h : Cal X.prog X.w X.K X.mg X.base k f xs x) (hr : Room k X.A) (ha : DA X G r (e :: es) xs r1) (hg : Gl X f := by rfl) (hdb : (f == ("__debug__" : Str)) = false := by decide)
    (he : starEach (e :: es) X.env = (false, eval e X.env) :: starEach es X.env := by rfl) (hpl : (backTo pos (starEach es X.env)).any (·.1) = false := by rfl) : DE X G r (.Call (.Name f p) (e :: es) [] pos) x r1 := by
  obtain ⟨fa, fd, ps, h1, h2, h3, h4⟩ := h
  exact pe_imp (pe_call h4 hr hg h1 h2 h3 .nil pass0 ha hdb he hpl) fun σ H Q ⟨M, o, q⟩ => ⟨M, o, fun vs H1 o1 s1 dx => ⟨M, o1.dom, by rw [List.append_nil]; exact dx, fun v H' s dv => q v H' (o1.grow s) (Same.trans s1 (msk_grow s)) dv⟩⟩
/-- the caller's list, changed by the callee -/
theorem dCallB (j : Nat) {nm : Str} {np : Pos} {ow : Bool} (h : CalB X.prog X.w X.K X.mg X.base k f us xs x us') (hr : Room k X.A) (ha : DA X G r es xs r1) (hj : r1[j]? = some (Sv.m ow us) := by rfl) (hj0 : ∃ ow us, r[j]? = some (Sv.m ow us) := by exact ⟨_, _, rfl⟩) (hN : X.N[j]? = some nm := by rfl)
    (hv : Vis X.env.scope nm := by first | exact Or.inl rfl | exact Or.inr (Or.inl rfl) | exact Or.inr (Or.inr rfl)) (hd : (nm == ("__debug__" : Str)) = false := by decide) (hcd : (nm == ("__classdict__" : Str)) = false := by decide) (hg : Gl X f := by rfl) (hdb : (f == ("__debug__" : Str)) = false := by decide)
    (he : starEach (.Name nm np :: es) X.env = (false, eval (.Name nm np) X.env) :: starEach es X.env := by rfl) (hpl : (backTo pos (starEach es X.env)).any (·.1) = false := by rfl) : DE X G r (.Call (.Name f p) (.Name nm np :: es) [] pos) x (r1.set j (.m ow us')) := by
  obtain ⟨fa, fd, ps, h1, h2, h3, h4⟩ := h
  refine pe_imp (pe_call h4 hr hg h1 h2 h3 .nil pass0 (pa_cons (pe_var hN hv hd hcd) ha he) hdb he hpl) fun σ H Q ⟨M, o, q⟩ => ?_
  obtain ⟨ow0, us0, hj0⟩ := hj0
  obtain ⟨a, ws0, e1, _⟩ := o.mv j ow0 us0 hj0
  refine ⟨_, e1, M, o, fun vs H1 o1 s1 dx => ?_⟩
  obtain ⟨a', ws, f1, f2, f3, f4, _⟩ := o1.mv j ow us hj
  rw [e1] at f1; cases f1
  refine ⟨M, a, ws, vs, by rw [List.append_nil], f2, o1.dom, f3, f4, dx, fun v H' ws' k1 k2 k3 dv => ?_⟩
  obtain ⟨o3, s3⟩ := ok_mset (us' := us') o1 hj e1 k1 k2 k3
  exact q v H' o3 (Same.trans s1 s3) dv
/-- a call that makes a new list, kept in the slot i -/
theorem sSetNew (i : Nat) {nm : Str} {p' : Pos} (h : CalF X.prog X.w X.K X.mg X.base k f xs us) (hr : Room k X.A) (ha : DA X G r (e :: es) xs r1) (hN : X.N.Nodup) (hi : X.N[i]? = some nm := by rfl) (hx : Loc X.env.scope nm := by first | exact Or.inl rfl | exact Or.inr rfl)
    (hs : swapsWith (.Call (.Name f p) (e :: es) [] pos) (some (.Name nm p')) pos'.line X.env = pure false := by rfl) (hf : X.fn nm = true ∨ X.env.scope.names.lookup nm = some .local := by first | exact .inl rfl | exact .inr rfl)
    (hg : Gl X f := by rfl) (hdb : (f == ("__debug__" : Str)) = false := by decide)
    (he : starEach (e :: es) X.env = (false, eval e X.env) :: starEach es X.env := by rfl) (hpl : (backTo pos (starEach es X.env)).any (·.1) = false := by rfl) : DS X G r (.Assign [.Name nm p'] (.Call (.Name f p) (e :: es) [] pos) pos') (.nx (r1.set i (.m true us))) := by
  obtain ⟨fa, fd, ps, h1, h2, h3, h4⟩ := h
  exact ps_imp (ps_set hN hi hx (pe_call h4 hr hg h1 h2 h3 .nil pass0 ha hdb he hpl) hs hf) fun D σ H ⟨M, o, q⟩ => ⟨M, o, fun vs H1 o1 s1 dx => ⟨M, o1.dom, by rw [List.append_nil]; exact dx, fun p H' ws hp s hl hw => by
    obtain ⟨o2, s2⟩ := ok_new (i := i) o1 hp s hl hw
    exact q _ _ _ o2 (Same.trans s1 s2)⟩⟩
end

/-! ### a def keeps its promise -/
section
variable {P : Program} {w : World} {K : PySem.W.Frag} {mg : Str → Option Value} {base : Heap} {k : Nat} {x qual : Str} {params : Arguments} {body : List Stmt} {scope : Scope} {f : Addr} {fd : FuncData} {N ps : List Str} {ds : List PyData} {d : PyData}
def stR (n : Nat) (ss : List Sv) : Rho := ss ++ List.replicate (n - ss.length) .u
theorem repl_none {n i : Nat} {v : Option V} (h : (List.replicate n (none : Option V))[i]? = some v) : v = none := by
  rw [List.getElem?_replicate] at h
  split at h
  · exact (Option.some.inj h).symm
  · cases h
theorem stR_get {n i : Nat} {ss : List Sv} {s : Sv} (h : (stR n ss)[i]? = some s) : ss[i]? = some s ∨ s = .u := by
  unfold stR at h
  by_cases hi : i < ss.length
  · rw [List.getElem?_append_left hi] at h
    exact .inl h
  · rw [List.getElem?_append_right (by omega), List.getElem?_replicate] at h
    split at h
    · exact .inr (Option.some.inj h).symm
    · cases h
theorem start_get {vs : List V} {i : Nat} {v : V} (h : vs[i]? = some v) : (start N vs)[i]? = some (some v) := by
  have hi : i < vs.length := by
    rcases Nat.lt_or_ge i vs.length with q | q
    · exact q
    · rw [List.getElem?_eq_none q] at h; cases h
  unfold L2.start
  rw [List.getElem?_append_left (by simpa using hi), List.getElem?_map, h]
  rfl
theorem start_len {vs : List V} (h : vs.length ≤ N.length) : (start N vs).length = N.length := by
  unfold L2.start
  simp
  omega
theorem stR_len {n : Nat} {ss : List Sv} (h : ss.length ≤ n) : (stR n ss).length = n := by
  unfold stR
  simp
  omega
theorem ok_start {M : List Addr} {H : Hp} {vs : List V} (hd : ∀ a ∈ M, H a ≠ none) (ha : DqAll K (msk M H) vs ds) (hn : ds.length ≤ N.length) : Ok K ⟨M, [], [], H, H⟩ M (stR N.length (ds.map .d)) (start N vs) H := by
  have hl := dpa_length ha
  refine ⟨fun _ h => h, fun a h1 h2 => (h2 h1).elim, hd, fun a u _ e => e, by rw [start_len (by omega), stR_len (by simpa using hn)], fun i y e => ?_, fun i ow ys e => ?_, fun i j ow ys ow' zs b e _ _ _ => ?_, fun _ h => (by cases h), fun _ h => (by cases h), fun i kvs e => ?_⟩
  · rcases stR_get e with e | e
    · rw [List.getElem?_map] at e
      cases q : ds[i]? with
      | none => rw [q] at e; cases e
      | some z =>
        rw [q] at e; cases e
        obtain ⟨v, e1, e2⟩ := dpa_get ha q
        exact ⟨v, start_get e1, e2⟩
    · cases e
  · rcases stR_get e with e | e
    · rw [List.getElem?_map] at e
      cases q : ds[i]? with
      | none => rw [q] at e; cases e
      | some z => rw [q] at e; cases e
    · cases e
  · rcases stR_get e with e | e
    · rw [List.getElem?_map] at e
      cases q : ds[i]? with
      | none => rw [q] at e; cases e
      | some z => rw [q] at e; cases e
    · cases e
  · rcases stR_get e with e | e
    · rw [List.getElem?_map] at e
      cases q : ds[i]? with
      | none => rw [q] at e; cases e
      | some z => rw [q] at e; cases e
    · cases e
theorem ok_startB {M : List Addr} {H : Hp} {vs ws : List V} {us : List PyData} {p : Addr} (hd : ∀ a ∈ M, H a ≠ none) (hp : p ∈ M) (hw : H p = some (.lst ws)) (hu : DqAll K (msk M H) ws us) (ha : DqAll K (msk M H) vs ds) (hn : ds.length + 1 ≤ N.length) :
    Ok K ⟨M, [p], [], H, H⟩ M (stR N.length (.m false us :: ds.map .d)) (start N (.ref p :: vs)) H := by
  have hl := dpa_length ha
  have key : ∀ (i : Nat) (s : Sv), (stR N.length (.m false us :: ds.map .d))[i]? = some s → (i = 0 ∧ s = .m false us) ∨ (∃ j y, i = j + 1 ∧ ds[j]? = some y ∧ s = .d y) ∨ s = .u := by
    intro i s e
    rcases stR_get e with e | e
    · cases i with
      | zero => simp at e; exact .inl ⟨rfl, e.symm⟩
      | succ j =>
        simp only [List.getElem?_cons_succ, List.getElem?_map] at e
        cases q : ds[j]? with
        | none => rw [q] at e; cases e
        | some z => rw [q] at e; cases e; exact .inr (.inl ⟨j, z, rfl, q, rfl⟩)
    · exact .inr (.inr e)
  refine ⟨fun _ h => h, fun a h1 h2 => (h2 h1).elim, hd, fun a u _ e => e, by rw [start_len (by simp; omega), stR_len (by simp; omega)], fun i y e => ?_, fun i ow ys e => ?_, fun i j ow ys ow' zs b e e' _ _ => ?_, fun a h => (List.mem_singleton.mp h) ▸ hp, fun _ h => (by cases h), fun i kvs e => ?_⟩
  · rcases key i _ e with ⟨_, z⟩ | ⟨j, y', rfl, q, z⟩ | z
    · cases z
    · cases z
      obtain ⟨v, e1, e2⟩ := dpa_get ha q
      exact ⟨v, start_get (by simpa using e1), e2⟩
    · cases z
  · rcases key i _ e with ⟨rfl, z⟩ | ⟨j, y', rfl, q, z⟩ | z
    · cases z
      exact ⟨p, ws, start_get rfl, hp, hw, hu, by simp, fun z => (by cases z), fun _ => List.mem_singleton.mpr rfl⟩
    · cases z
    · cases z
  · rcases key i _ e with ⟨rfl, z⟩ | ⟨_, _, _, _, z⟩ | z
    · rcases key j _ e' with ⟨rfl, z⟩ | ⟨_, _, _, _, z⟩ | z
      · rfl
      · cases z
      · cases z
    · cases z
    · cases z
  · rcases key i _ e with ⟨_, z⟩ | ⟨_, _, _, _, z⟩ | z
    · cases z
    · cases z
    · cases z
abbrev BindN (x qual : Str) (params : Arguments) (body : List Stmt) (scope : Scope) (ps : List Str) : Prop := ∀ (kV doc pm : Value) (an : Option Addr) (cdv ct : Value) (us : List Value), us.length = ps.length → bindArgs (PySem.W.fnOf x qual params body scope .none kV doc pm an cdv ct) ⟨us, []⟩ = pure (ps.zip us)
/-- a body that answers, under every context -/
abbrev Body (P : Program) (w : World) (K : PySem.W.Frag) (mg : Str → Option Value) (base : Heap) (k : Nat) (N : List Str) (qual : Str) (scope : Scope) (Z : Cx → Fr0 → Prop) : Prop :=
  ∀ (f : Addr) (cdv : Value) (A : Around) (outer : List Env) (s : Shared) (H : Hp) (E : XK) (G : Fr0), Room k (A.deeper (envOfC qual scope s.heap.objs.size f cdv)) → Z (cxOf CX0 P w K mg base N qual scope f cdv A outer s H E).nox G
theorem cal_of {bg : List PyData} (F : FunD K x qual params body scope [] [] f fd) (S : FnScope N ps scope) (hm : mg x = some (.ref f)) (hb : BindN x qual params body scope ps) (hl : ds.length = ps.length) (hn : ps.length ≤ N.length)
    (h : Body P w K mg base k N qual scope fun X G => DB X G (stR N.length (ds.map .d)) body (.rt d bg)) : Cal P w K mg base (k + 1) x ds d := by
  refine ⟨f, fd, ps, hm, F.kp, F.bindsN hb, F.ok S (fun vs H Q E ⟨M, _, z, _⟩ => by rw [dpa_length z, hl]) fun cdv A outer s H vs Q E hr ⟨M, hd, ha, q⟩ => ⟨_, PSs.nox (h f cdv A outer s H E ⟨M, [], [], H, H⟩ hr), M, ok_start hd ha (by omega), fun M' v r' σ' H' o' _ dv => ?_⟩⟩
  exact q v H' (fun a u e => o'.fr a u (by simp) e) dv
/-- the same, where nothing is handed back -/
theorem cal_none {r' : Rho} (F : FunD K x qual params body scope [] [] f fd) (S : FnScope N ps scope) (hm : mg x = some (.ref f)) (hb : BindN x qual params body scope ps) (hl : ds.length = ps.length) (hn : ps.length ≤ N.length)
    (h : Body P w K mg base k N qual scope fun X G => DB X G (stR N.length (ds.map .d)) body (.nx r')) : Cal P w K mg base (k + 1) x ds .none := by
  refine ⟨f, fd, ps, hm, F.kp, F.bindsN hb, F.ok S (fun vs H Q E ⟨M, _, z, _⟩ => by rw [dpa_length z, hl]) fun cdv A outer s H vs Q E hr ⟨M, hd, ha, q⟩ => ⟨_, PSs.nox (h f cdv A outer s H E ⟨M, [], [], H, H⟩ hr), M, ok_start hd ha (by omega), fun M' σ' H' o' _ => ?_⟩⟩
  exact q _ H' (fun a u e => o'.fr a u (by simp) e) .non
theorem cal_fresh {us : List PyData} (F : FunD K x qual params body scope [] [] f fd) (S : FnScope N ps scope) (hm : mg x = some (.ref f)) (hb : BindN x qual params body scope ps) (hl : ds.length = ps.length) (hn : ps.length ≤ N.length)
    (h : Body P w K mg base k N qual scope fun X G => DB X G (stR N.length (ds.map .d)) body (.fr us)) : CalF P w K mg base (k + 1) x ds us := by
  refine ⟨f, fd, ps, hm, F.kp, F.bindsN hb, F.ok S (fun vs H Q E ⟨M, _, z, _⟩ => by rw [dpa_length z, hl]) fun cdv A outer s H vs Q E hr ⟨M, hd, ha, q⟩ => ⟨_, PSs.nox (h f cdv A outer s H E ⟨M, [], [], H, H⟩ hr), M, ok_start hd ha (by omega), fun M' p vs' r' σ' H' o' h1 h2 h3 h4 => ?_⟩⟩
  exact q p H' vs' h1 (fun a u e => o'.fr a u (by simp) e) h3 h4
theorem calB_of {us us' : List PyData} (F : FunD K x qual params body scope [] [] f fd) (S : FnScope N ps scope) (hm : mg x = some (.ref f)) (hb : BindN x qual params body scope ps) (hl : ds.length + 1 = ps.length) (hn : ps.length ≤ N.length) (hu : us' ≠ [])
    (h : Body P w K mg base k N qual scope fun X G => DB X G (stR N.length (.m false us :: ds.map .d)) body (.rt d us')) : CalB P w K mg base (k + 1) x us ds d us' := by
  refine ⟨f, fd, ps, hm, F.kp, F.bindsN hb, F.ok S (fun vs H Q E ⟨M, p, ws, vs', e, _, _, _, _, z, _⟩ => by rw [e, List.length_cons, dpa_length z, hl]) fun cdv A outer s H vs Q E hr ⟨M, p, ws, vs', e, hp, hd, hw, hu', ha, q⟩ => ?_⟩
  subst e
  refine ⟨_, PSs.nox (h f cdv A outer s H E ⟨M, [p], [], H, H⟩ hr), M, ok_startB hd hp hw hu' ha (by omega), fun M' v r' σ' H' o' hb' dv => ?_⟩
  have e0 : ∃ rest, r' = .m false us' :: rest := by
    match r', hb' with
    | .m false zs :: rest, hb' => exact ⟨rest, by rw [show zs = us' from hb']⟩
    | [], hb' => exact absurd hb'.symm hu
    | .u :: _, hb' => exact absurd hb'.symm hu
    | .d _ :: _, hb' => exact absurd hb'.symm hu
    | .m true _ :: _, hb' => exact absurd hb'.symm hu
    | .t _ :: _, hb' => exact absurd hb'.symm hu
  obtain ⟨rest, rfl⟩ := e0
  obtain ⟨a, ws', f1, f2, f3, f4, _, _, f5⟩ := o'.mv 0 false us' rfl
  have ea : a = p := List.mem_singleton.mp (f5 rfl)
  subst ea
  exact q v H' ws' (fun b u hb e => o'.fr b u (fun z => hb (List.mem_singleton.mp z)) e) f3 (dpa_mono (msk_sub o'.sub) _ _ f4) dv
end

/-! ### forgetting, loops by a sequence of states -/
section
variable {X : Cx} {G : Fr0} {r r1 r2 : Rho} {sts : List Stmt} {pos : Pos} {xs : List PyData}
inductive Fgt : Rho → Rho → Prop
  | nil : Fgt [] []
  | keep {s : Sv} {r r' : Rho} : Fgt r r' → Fgt (s :: r) (s :: r')
  | drop {s : Sv} {r r' : Rho} : Fgt r r' → Fgt (s :: r) (.u :: r')
theorem Fgt.len {r r' : Rho} (h : Fgt r r') : r'.length = r.length := by induction h <;> simp_all
theorem Fgt.get {r r' : Rho} (h : Fgt r r') : ∀ (i : Nat) (s : Sv), r'[i]? = some s → s = Sv.u ∨ r[i]? = some s := by
  induction h with
  | nil => intro i s e; simp at e
  | keep _ ih =>
    intro i s e
    cases i with
    | zero => exact .inr e
    | succ i => exact ih i s e
  | drop _ ih =>
    intro i s e
    cases i with
    | zero => simp at e; exact .inl e.symm
    | succ i => exact ih i s e
theorem Fgt.refl : ∀ r : Rho, Fgt r r
  | [] => .nil
  | _ :: r => .keep (Fgt.refl r)
/-- less is known behind a block -/
theorem bFg (h : DB X G r sts (.nx r1)) (f : Fgt r1 r2) : DB X G r sts (.nx r2) :=
  pss_imp h fun D σ H ⟨M, o, q⟩ => ⟨M, o, fun M' σ' H' o' s => q M' σ' H' (o'.less f.len f.get) s⟩
theorem sFg {st : Stmt} (h : DS X G r st (.nx r1)) (f : Fgt r1 r2) : DS X G r st (.nx r2) :=
  ps_imp h fun D σ H ⟨M, o, q⟩ => ⟨M, o, fun M' σ' H' o' s => q M' σ' H' (o'.less f.len f.get) s⟩
/-- less is known ahead of a block -/
theorem bFg0 {o : Out} (h : DB X G r1 sts o) (f : Fgt r r1) : DB X G r sts o :=
  pss_imp h fun D σ H hq => by
    cases o with
    | nx r2 => exact let ⟨M, o, q⟩ := hq; ⟨M, o.less f.len f.get, q⟩
    | rt x b => exact let ⟨M, o, q⟩ := hq; ⟨M, o.less f.len f.get, q⟩
    | fr b => exact let ⟨M, o, q⟩ := hq; ⟨M, o.less f.len f.get, q⟩
end
end DL
end Sec_D6
section Sec_S1
set_option maxRecDepth 100000
/-! Sets of many nested tuples, 1: the tables, for masks up to 8191. -/
namespace SN
open PySem PySem.Spec PyProof.Rows L2
def MK (m : Nat) : Prop := m = 7 ∨ m = 31 ∨ m = 127 ∨ m = 511 ∨ m = 2047 ∨ m = 8191
/-- n steps from x on: no zero before the last -/
def nz (m : Nat) : Nat → Nat → Bool
  | 0, 0 => true
  | 0, _ + 1 => false
  | _ + 1, 0 => false
  | n + 1, y + 1 => nz m n (((y + 1) * 5 + 1) % (m + 1))
theorem lcg_shift (m i : Nat) : ∀ k, lcgI m ((i * 5 + 1) % (m + 1)) k = lcgI m i (k + 1)
  | 0 => rfl
  | k + 1 => by
    show (lcgI m ((i * 5 + 1) % (m + 1)) k * 5 + 1) % (m + 1) = (lcgI m i (k + 1) * 5 + 1) % (m + 1)
    rw [lcg_shift m i k]
theorem nz_says (m : Nat) : ∀ n x, nz m n x = true → (∀ k, k < n → lcgI m x k ≠ 0) ∧ lcgI m x n = 0
  | 0, 0, _ => ⟨fun _ h => absurd h (Nat.not_lt_zero _), rfl⟩
  | 0, _ + 1, h => by cases h
  | _ + 1, 0, h => by cases h
  | n + 1, y + 1, h => by
    obtain ⟨h1, h2⟩ := nz_says m n _ h
    refine ⟨fun k hk => ?_, by rw [← lcg_shift]; exact h2⟩
    cases k with
    | zero => exact Nat.succ_ne_zero _
    | succ k => rw [← lcg_shift]; exact h1 k (by omega)
theorem nz_all {m : Nat} (hm : MK m) : nz m m 1 = true := by
  rcases hm with e | e | e | e | e | e <;> subst e <;> decide +kernel
theorem step_inj {m : Nat} (hm : MK m) {x y : Nat} (hx : x ≤ m) (hy : y ≤ m) (h : (x * 5 + 1) % (m + 1) = (y * 5 + 1) % (m + 1)) : x = y := by
  rcases hm with e | e | e | e | e | e <;> subst e <;> omega
theorem lcgN_le (m : Nat) : ∀ k, lcgN m k ≤ m
  | 0 => Nat.zero_le _
  | k + 1 => Nat.le_of_lt_succ (Nat.mod_lt _ (Nat.succ_pos _))
theorem one_of {m : Nat} (hm : MK m) : (0 * 5 + 1) % (m + 1) = 1 := by
  rcases hm with e | e | e | e | e | e <;> subst e <;> rfl
theorem lcgN_ne {m : Nat} (hm : MK m) {k : Nat} (h : k < m) : lcgN m (k + 1) ≠ 0 := by
  have := (nz_says m m 1 (nz_all hm)).1 k h
  rw [← one_of hm, lcg_shift] at this
  have e := lcgN_add m 0 (k + 1)
  rw [Nat.zero_add] at e
  rw [← e]
  exact this
theorem lcgN_turn {m : Nat} (hm : MK m) : lcgN m (m + 1) = 0 := by
  have := (nz_says m m 1 (nz_all hm)).2
  rw [← one_of hm, lcg_shift] at this
  have e := lcgN_add m 0 (m + 1)
  rw [Nat.zero_add] at e
  rw [← e]
  exact this
theorem lcgN_apart {m : Nat} (hm : MK m) : ∀ (a b : Nat), a < b → b ≤ m → lcgN m a ≠ lcgN m b
  | 0, b + 1, _, hb => fun e => lcgN_ne hm hb e.symm
  | a + 1, b + 1, h, hb => fun e => lcgN_apart hm a b (by omega) (by omega) (step_inj hm (lcgN_le m a) (lcgN_le m b) e)
theorem lcgN_hits {m : Nat} (hm : MK m) {j : Nat} (hj : j ≤ m) : ∃ b, b ≤ m ∧ lcgN m b = j := by
  rcases Classical.em (j ∈ (List.range (m + 1)).map (lcgN m)) with c | c
  · obtain ⟨b, hb, e⟩ := List.mem_map.mp c
    exact ⟨b, Nat.le_of_lt_succ (List.mem_range.mp hb), e⟩
  · exfalso
    have nd : ((List.range (m + 1)).map (lcgN m)).Nodup := by
      refine List.pairwise_map.mpr (List.Pairwise.imp_of_mem (fun {a b} _ hb h => ?_) (List.pairwise_lt_range (n := m + 1)))
      exact lcgN_apart hm a b h (Nat.le_of_lt_succ (List.mem_range.mp hb))
    have := nat_nodup_len (j :: (List.range (m + 1)).map (lcgN m)) (List.range (m + 1)) (List.nodup_cons.mpr ⟨c, nd⟩) fun x hx => by
      rcases List.mem_cons.mp hx with e | hx
      · rw [e]; exact List.mem_range.mpr (Nat.lt_succ_of_le hj)
      · obtain ⟨b, _, e⟩ := List.mem_map.mp hx
        rw [← e]; exact List.mem_range.mpr (Nat.lt_succ_of_le (lcgN_le m b))
    simp at this
    omega
theorem lcgN_over {m : Nat} (hm : MK m) : ∀ k, lcgN m (m + 1 + k) = lcgN m k
  | 0 => lcgN_turn hm
  | k + 1 => by
    show (lcgN m (m + 1 + k) * 5 + 1) % (m + 1) = (lcgN m k * 5 + 1) % (m + 1)
    rw [lcgN_over hm k]
theorem lcgI_hits {m : Nat} (hm : MK m) {i j : Nat} (hi : i ≤ m) (hj : j ≤ m) : ∃ k, k ≤ m ∧ lcgI m i k = j := by
  obtain ⟨a, ha, ea⟩ := lcgN_hits hm hi
  obtain ⟨b, hb, eb⟩ := lcgN_hits hm hj
  subst ea
  by_cases c : a ≤ b
  · exact ⟨b - a, by omega, by rw [lcgN_add, Nat.add_sub_cancel' c, eb]⟩
  · refine ⟨m + 1 + b - a, by omega, ?_⟩
    rw [lcgN_add, show a + (m + 1 + b - a) = m + 1 + b by omega, lcgN_over hm, eb]
theorem runs_hit {m : Nat} (hm : MK m) (h : Int) {j : Nat} (hj : j ≤ m) : ∃ n, n ≤ m + 12 ∧ runI m (SetTable.bits h) n = j := by
  obtain ⟨k, hk, e⟩ := lcgI_hits hm (runI_le m (SetTable.bits h) 12) hj
  exact ⟨12 + k, by omega, (runI_tail (bits_lt h) k).trans e⟩
theorem way_hits {m : Nat} (hm : MK m) (h : Int) {j : Nat} (hj : j ≤ m) : ∃ k, k < 10 * SetTable.turns m ∧ way m h k = j := by
  obtain ⟨n, hn, e⟩ := runs_hit hm h hj
  obtain ⟨k, hk, e2⟩ := run_nth m (SetTable.bits h) n
  exact ⟨k, by unfold SetTable.turns; omega, (congrArg SetTable.Probe.j e2).trans e⟩
theorem way_in (m : Nat) (h : Int) (k : Nat) : way m h k ≤ m := by
  have hi : SetTable.bits h % (m + 1) ≤ m := Nat.le_of_lt_succ (Nat.mod_lt _ (Nat.succ_pos _))
  have r := runEnd_bd hi
  have q : (runAt m (SetTable.bits h % (m + 1)) (SetTable.bits h)).j + (runAt m (SetTable.bits h % (m + 1)) (SetTable.bits h)).more ≤ m := by
    show SetTable.bits h % (m + 1) + (SetTable.runEnd m (SetTable.bits h % (m + 1)) - SetTable.bits h % (m + 1)) ≤ m
    omega
  exact Nat.le_trans (Nat.le_add_right _ _) (nth_in (m := m) k _ q)

/-! ### a table whose slots are found again -/
structure Tb (t : SetTable) (hs : List Int) : Prop where
  ris : Ris t.place.toList
  dm : t.dummies = #[]
  sz : t.place.size = hs.length
  mok : MK t.mask
  bd : ∀ x ∈ t.place.toList, x ≤ t.mask
  re : ∀ (i : Nat) (h : Int) (j : Nat), hs[i]? = some h → t.place.toList[i]? = some j → ∃ k, way t.mask h k = j ∧ ∀ k', k' < k → way t.mask h k' ∈ t.place.toList
theorem mk_odd {m : Nat} (h : MK m) : m % 2 = 1 := by
  rcases h with e | e | e | e | e | e <;> subst e <;> rfl
section
variable {t : SetTable} {hs : List Int}
theorem Tb.free (T : Tb t hs) (hl : hs.length ≤ t.mask) (h : Int) : ∃ k, k < 10 * SetTable.turns t.mask ∧ way t.mask h k ∉ t.place.toList ∧ ∀ k', k' < k → way t.mask h k' ∈ t.place.toList := by
  obtain ⟨j, hj, hn⟩ := st_missing t.place.toList (t.mask + 1) (by rw [Array.length_toList, T.sz]; omega)
  obtain ⟨k, hk, e⟩ := way_hits T.mok h (Nat.le_of_lt_succ hj)
  obtain ⟨k0, h1, h2, h3⟩ := st_least (p := fun k => way t.mask h k ∉ t.place.toList) k (by rw [e]; exact hn)
  exact ⟨k0, by omega, h2, fun k' hk' => Classical.byContradiction fun c => h3 k' hk' c⟩
theorem Tb.ahead (T : Tb t hs) {h : Int} {k0 i j : Nat} (hk : way t.mask h k0 ∉ t.place.toList) (hi : hs[i]? = some h) (hj : t.place.toList[i]? = some j) : ∃ k, k < k0 ∧ way t.mask h k = j := by
  obtain ⟨k, e, hb⟩ := T.re i h j hi hj
  refine ⟨k, Classical.byContradiction fun c => ?_, e⟩
  rcases Nat.lt_or_ge k0 k with z | z
  · exact hk (hb k0 z)
  · have : k0 = k := by omega
    rw [this, e] at hk
    exact hk (List.mem_of_getElem? hj)
/-- one put in at the first free slot of its way -/
theorem Tb.put (T : Tb t hs) {h : Int} {k0 p : Nat} (hk : way t.mask h k0 ∉ t.place.toList) (hb : ∀ k, k < k0 → way t.mask h k ∈ t.place.toList) (hp : SetTable.below t.place (way t.mask h k0) = p) :
    p ≤ hs.length ∧ Tb (t.put (way t.mask h k0)).1 (hs.take p ++ h :: hs.drop p) ∧ (t.put (way t.mask h k0)).1.fill = hs.length + 1 := by
  subst hp
  generalize hj : way t.mask h k0 = j at hk ⊢
  have hle := (below_cut T.ris j).1
  have hph : SetTable.below t.place j ≤ hs.length := T.sz ▸ hle
  have hpl : SetTable.below t.place j ≤ t.place.toList.length := hle
  have pp := put_place t j
  have hs1 : (t.put j).1.place.size = hs.length + 1 := by
    rw [← Array.length_toList, pp, len_ins _ hpl, Array.length_toList, T.sz]
  have up : ∀ x, x ∈ t.place.toList → x ∈ (t.put j).1.place.toList := fun x hx => by rw [pp]; exact mem_ins.2 (.inr hx)
  refine ⟨hph, ⟨ris_insert T.ris fun e => hk (List.mem_of_getElem? (by rw [Array.getElem?_toList]; exact e)), put_dm T.dm j, by rw [len_ins _ hph]; exact hs1, T.mok, fun x hx => ?_, fun i h' j' e1 e2 => ?_⟩, ?_⟩
  · rw [pp] at hx
    rcases mem_ins.1 hx with z | z
    · rw [z, ← hj]; exact way_in _ _ _
    · exact T.bd x z
  · rw [tins_get hs hph] at e1
    rw [pp, tins_get _ hpl] at e2
    have old : ∀ i, hs[i]? = some h' → t.place.toList[i]? = some j' → ∃ k, way t.mask h' k = j' ∧ ∀ k', k' < k → way t.mask h' k' ∈ (t.put j).1.place.toList := fun i f1 f2 => by
      obtain ⟨k, e, z⟩ := T.re i h' j' f1 f2
      exact ⟨k, e, fun k' hk' => up _ (z k' hk')⟩
    split at e1
    · rename_i c
      rw [if_pos c] at e2
      exact old i e1 e2
    · rename_i c
      rw [if_neg c] at e2
      split at e1
      · rename_i d
        rw [if_pos d] at e2
        cases e1
        cases e2
        exact ⟨k0, hj, fun k' hk' => up _ (hb k' hk')⟩
      · rename_i d
        rw [if_neg d] at e2
        exact old _ e1 e2
  · show (t.put j).1.place.size + (t.put j).1.dummies.size = hs.length + 1
    rw [hs1, put_dm T.dm j] <;> rfl
end

/-! ### all laid anew -/
theorem free_at {m : Nat} (hm : MK m) (owner : Array (Option Nat)) (h : Int) {j : Nat} (hj : j ≤ m) (hf : oAt owner j = none) :
    ∃ k0, SetTable.layClean.free m owner (SetTable.turns m) (SetTable.bits h % (m + 1)) (SetTable.bits h) = some (way m h k0) ∧ oAt owner (way m h k0) = none ∧ ∀ k, k < k0 → oAt owner (way m h k) ≠ none := by
  obtain ⟨n, hn, e⟩ := runs_hit hm h hj
  have hw : way m h (off m (SetTable.bits h % (m + 1)) (SetTable.bits h) n) = j := by
    refine (congrArg SetTable.Probe.j (nth_off m n _ _)).trans ?_
    rw [itL_run]
    exact e
  obtain ⟨k0, h1, h2, h3⟩ := st_least (p := fun k => oAt owner (way m h k) = none) _ (by rw [hw]; exact hf)
  refine ⟨k0, free_spec m owner (SetTable.turns m) n _ _ k0 (by unfold SetTable.turns; omega) h1 (fun k hk => ?_) ?_, h2, h3⟩
  · have := h3 k hk
    revert this
    generalize oAt owner (nth m _ k).j = o
    intro q
    cases o with
    | none => exact absurd rfl q
    | some _ => rfl
  · have : oAt owner (nth m (runAt m (SetTable.bits h % (m + 1)) (SetTable.bits h)) k0).j = none := h2
    rw [this]; rfl
theorem own_more {m : Nat} (hm : MK m) {done : List Int} {owner : Array (Option Nat)} (W : Own m done owner) (hl : done.length ≤ m) (h : Int) :
    ∃ j, SetTable.layClean.free m owner (SetTable.turns m) (SetTable.bits h % (m + 1)) (SetTable.bits h) = some j ∧ Own m (done ++ [h]) (owner.setIfInBounds j (some done.length)) := by
  obtain ⟨ps, hps, hin⟩ := W.ps
  obtain ⟨j0, h0, hn0⟩ := st_missing ps (m + 1) (by omega)
  have hj0 : oAt owner j0 = none := Classical.byContradiction fun c => hn0 (hin j0 (Nat.le_of_lt_succ h0) c)
  obtain ⟨k0, e1, e2, e3⟩ := free_at hm owner h (Nat.le_of_lt_succ h0) hj0
  refine ⟨_, e1, ?_⟩
  have hle := way_in m h k0
  generalize hj : way m h k0 = j at e1 e2 hle ⊢
  have hself : oAt (owner.setIfInBounds j (some done.length)) j = some done.length := oAt_set_self _ (by rw [W.sz]; omega)
  have hne : ∀ i, i ≠ j → oAt (owner.setIfInBounds j (some done.length)) i = oAt owner i := fun i hi => oAt_set_ne _ hi
  have full : ∀ i, oAt owner i ≠ none → oAt (owner.setIfInBounds j (some done.length)) i ≠ none := fun i hi => by
    rw [hne i fun z => hi (z ▸ e2)]; exact hi
  refine ⟨by rw [Array.size_setIfInBounds]; exact W.sz, fun i k hi e => ?_, fun k hk => ?_, ⟨j :: ps, by simp [hps], fun i hi e => ?_⟩⟩
  · by_cases c : i = j
    · rw [c, hself] at e
      cases e
      exact ⟨h, k0, by simp, hj.trans c.symm, fun k' hk' => full _ (e3 k' hk')⟩
    · rw [hne i c] at e
      obtain ⟨h', k', a1, a2, a3⟩ := W.at_ i k hi e
      exact ⟨h', k', by rw [List.getElem?_append_left (List.getElem?_eq_some_iff.mp a1).1]; exact a1, a2, fun k'' hk' => full _ (a3 k'' hk')⟩
  · by_cases c : k < done.length
    · obtain ⟨i, hi, e⟩ := W.all k c
      exact ⟨i, hi, by rw [hne i fun z => by rw [z, e2] at e; cases e]; exact e⟩
    · have : k = done.length := by simp at hk; omega
      exact ⟨j, hle, by rw [this]; exact hself⟩
  · by_cases c : i = j
    · rw [c]; exact List.mem_cons_self
    · rw [hne i c] at e
      exact List.mem_cons_of_mem _ (hin i hi e)
theorem own_fold {m : Nat} (hm : MK m) : ∀ (rest done : List Int) (owner : Array (Option Nat)), Own m done owner → done.length + rest.length ≤ m →
    ∃ owner', rest.foldl (stepF m) (some (owner, done.length)) = some (owner', done.length + rest.length) ∧ Own m (done ++ rest) owner'
  | [], done, owner, W, _ => ⟨owner, rfl, by rw [List.append_nil]; exact W⟩
  | h :: rest, done, owner, W, hl => by
    rw [List.length_cons] at hl
    obtain ⟨j, e, W'⟩ := own_more hm W (by omega) h
    obtain ⟨owner', f, W2⟩ := own_fold hm rest (done ++ [h]) _ W' (by simp; omega)
    refine ⟨owner', ?_, by simpa using W2⟩
    rw [List.foldl_cons, stepF_some e]
    simp only [List.length_append, List.length_singleton] at f
    rw [f, List.length_cons, Nat.add_assoc, Nat.add_comm 1]
theorem lay_ok {m : Nat} (hm : MK m) {hs : Array Int} (hn : hs.size ≤ m) : ∃ owner, SetTable.layClean m hs = some owner ∧ Own m hs.toList owner := by
  obtain ⟨owner, f, W⟩ := own_fold hm hs.toList [] _ (Own.init m) (by simpa using hn)
  refine ⟨owner, ?_, W⟩
  rw [layClean_eq]
  have f' : hs.toList.foldl (stepF m) (some (Array.replicate (m + 1) none, 0)) = some (owner, [].length + hs.toList.length) := f
  rw [f'] <;> rfl
theorem relay_ok (t : SetTable) {hs : Array Int} {wanted M : Nat} (hw : SetTable.sizeAbove wanted - 1 = M) (hM : MK M) (hn : hs.size ≤ M) :
    ∃ t' order, t.relaid hs wanted = some (t', order) ∧ order.toList.Perm (List.range hs.size) ∧ Tb t' (order.toList.map fun i => hs.getD i 0) ∧ t'.mask = M ∧ t'.led = t.led ∧ t'.plain = t.plain := by
  obtain ⟨owner, e, W⟩ := lay_ok hM hn
  have rs := ris_live (fun j => owner.getD j none) (List.range (M + 1)) (by unfold Ris; exact List.pairwise_lt_range)
  have r1 : Ris ((liveOf M owner).map (·.1)) := rs.1
  have r2 : ∀ x ∈ (liveOf M owner).map (·.1), x ∈ List.range (M + 1) := rs.2
  have all : ∀ k, k < hs.size → k ∈ (liveOf M owner).map (·.2) := fun k hk => by
    obtain ⟨j, b1, b2⟩ := W.all k (by rw [Array.length_toList]; exact hk)
    exact List.mem_map.mpr ⟨(j, k), (mem_live W.sz).2 ⟨b1, b2⟩, rfl⟩
  have hlen : (liveOf M owner).length = hs.size := by
    obtain ⟨ps, p1, p2⟩ := W.ps
    have nd : ((liveOf M owner).map (·.1)).Nodup := List.Pairwise.imp (fun h => Nat.ne_of_lt h) r1
    have a := nat_nodup_len ((liveOf M owner).map (·.1)) ps nd fun x hx => by
      obtain ⟨⟨y, k⟩, hq, rfl⟩ := List.mem_map.mp hx
      obtain ⟨b1, b2⟩ := (mem_live W.sz).1 hq
      exact p2 y b1 (by rw [b2]; exact fun z => nomatch z)
    have b := nat_nodup_len (List.range hs.size) ((liveOf M owner).map (·.2)) List.nodup_range fun k hk => all k (List.mem_range.mp hk)
    have z : hs.toList.length = hs.size := rfl
    rw [List.length_map, p1] at a
    rw [List.length_map, List.length_range] at b
    omega
  refine ⟨tabOf t M owner, ((liveOf M owner).map (·.2)).toArray, by rw [relaid_eq, hw, e] <;> rfl, perm_range hs.size _ (by simp [hlen]) (by simpa using all), ⟨r1, rfl, ?_, hM, fun x hx => ?_, fun i h j h1 h2 => ?_⟩, rfl, rfl, rfl⟩
  · show ((liveOf M owner).map (·.1)).toArray.size = _
    simp
  · exact Nat.le_of_lt_succ (List.mem_range.mp (r2 x hx))
  · have h1' : (((liveOf M owner).map (·.2)).map fun i => hs.getD i 0)[i]? = some h := h1
    have h2' : ((liveOf M owner).map (·.1))[i]? = some j := h2
    simp only [List.getElem?_map] at h1' h2'
    cases hq : (liveOf M owner)[i]? with
    | none => rw [hq] at h2'; cases h2'
    | some q =>
      obtain ⟨y, k⟩ := q
      rw [hq] at h1' h2'
      simp only [Option.map_some, Option.some.injEq] at h1' h2'
      subst h2'
      obtain ⟨b1, b2⟩ := (mem_live W.sz).1 (List.mem_of_getElem? hq)
      obtain ⟨h0, k0, a1, a2, a3⟩ := W.at_ y k b1 b2
      have e0 : hs.getD k 0 = h0 := by
        rw [Array.getD_eq_getD_getElem?, ← Array.getElem?_toList, a1] <;> rfl
      rw [e0] at h1'
      subst h1'
      refine ⟨k0, a2, fun k' hk' => ?_⟩
      show way M h0 k' ∈ (liveOf M owner).map (·.1)
      cases z : oAt owner (way M h0 k') with
      | none => exact absurd z (a3 k' hk')
      | some k2 => exact List.mem_map.mpr ⟨(way M h0 k', k2), (mem_live W.sz).2 ⟨way_in _ _ _, z⟩, rfl⟩
/-- when a table of m + 1 slots has become too full with n -/
def nextM (m : Nat) : Nat := 4 * m + 3
theorem grows {m n : Nat} (hm : MK m) (h1 : n * 5 < m * 3) (h2 : (n + 1) * 5 ≥ m * 3) (hn : n + 1 < 4096) : SetTable.sizeAbove (SetTable.grown (n + 1)) - 1 = nextM m ∧ MK (nextM m) ∧ SetTable.sizeAbove (SetTable.grown (n + 1)) ≤ 8192 ∧ (n + 1) * 5 < nextM m * 3 ∧ n + 1 ≤ m := by
  have key : (m = 7 ∧ n = 4) ∨ (m = 31 ∧ n = 18) ∨ (m = 127 ∧ n = 76) ∨ (m = 511 ∧ n = 306) ∨ (m = 2047 ∧ n = 1228) := by
    rcases hm with e | e | e | e | e | e <;> subst e <;> omega
  rcases key with ⟨e, f⟩ | ⟨e, f⟩ | ⟨e, f⟩ | ⟨e, f⟩ | ⟨e, f⟩ <;> subst e <;> subst f <;> exact ⟨by decide +kernel, by unfold MK nextM; omega, by decide +kernel, by decide, by decide⟩
end SN
end Sec_S1
section Sec_S2
set_option maxRecDepth 100000
/-! Sets of many nested tuples, 2: search, add. A key is (i, (p, q)). -/
namespace SN
open PySem PySem.Spec PyProof.Rows L2
abbrev K3 := Int × Int × Int
def nk (k : K3) : NestedKey := .tup [.num k.1, .tup [.num k.2.1, .num k.2.2]]
theorem nk_inj {x y : K3} (h : nk x = nk y) : x = y := by
  unfold nk at h
  injection h with h
  injection h with h1 h2
  injection h2 with h2 _
  injection h1 with h1
  injection h2 with h2
  injection h2 with h2 h3
  injection h3 with h3 _
  injection h2 with h2
  injection h3 with h3
  exact Prod.ext h1 (Prod.ext h2 h3)
abbrev IsK (h : Heap) (k : K3) (b : Addr) : Prop := NestedIs h (nk k) (.ref b)
theorem nk_depth (k : K3) : (nk k).depth ≤ 8 := by
  simp [nk, NestedKey.depth, NestedKey.depthAll]
section
variable {P : Program} {w : World} {A : Around} {E : Value → Shared → Prop} {s : Shared}
theorem isK_nk {h : Heap} {k : K3} {b : Addr} (x : IsK h k b) : (nestedKind P w).is h (nk k) b := ⟨x, nk_depth k⟩
theorem isK_keep {h h' : Heap} {k : K3} {b : Addr} (x : IsK h k b) (hk : ∀ c o, h.get? c = some o → h'.get? c = some o) : IsK h' k b := NestedIs.at (fun a o _ _ e _ => hk a o e) _ _ x
theorem isK_but {h h' : Heap} {k : K3} {a b : Addr} {o : Obj} {es : Array (Int × Value)} {ep : Nat} {t : SetTable} (x : IsK h k b) (ho : h.get? a = some o) (hd : o.data = .set es ep t) (hs : Heap.SameBut a h h') : IsK h' k b :=
  NestedIs.at (fun c u _ _ e f => (hs.2 c fun z => by subst z; rw [ho] at e; cases e; rw [hd] at f; cases f).trans e) _ _ x
theorem isK_type {h : Heap} {k : K3} {b : Addr} (x : IsK h k b) : ∃ o its n, h.get? b = some o ∧ o.cls = .type "tuple" ∧ o.data = .seq its n ∧ ∀ v ∈ its.toList, (∃ i, NestedIs h (.num i) v) ∨ ∃ c i j, v = .ref c ∧ NestedIs h (.tup [.num i, .num j]) v := by
  cases x with
  | @tup _ o vs n _ h1 h2 h3 h4 =>
    refine ⟨o, vs, n, h1, h2, h3, fun v hv => ?_⟩
    generalize vs.toList = l at h4 hv
    cases h4 with
    | cons a1 a2 =>
      cases a2 with
      | cons b1 b2 =>
        cases b2
        rcases List.mem_cons.mp hv with e | hv
        · exact .inl ⟨_, e ▸ a1⟩
        · rcases List.mem_cons.mp hv with e | hv
          · subst e
            cases b1 with
            | tup c1 c2 c3 c4 => exact .inr ⟨_, _, _, rfl, .tup c1 c2 c3 c4⟩
          · cases hv
theorem num_shape {h : Heap} {i : Int} {v : Value} (x : NestedIs h (.num i) v) : (∃ b, v = .bool b) ∨ ∃ t, v = .int i t := by
  cases x with
  | bool e => exact .inl ⟨_, rfl⟩
  | int _ t => exact .inr ⟨t, rfl⟩
theorem pair_shape {h : Heap} {i j : Int} {c : Addr} (x : NestedIs h (.tup [.num i, .num j]) (.ref c)) : ∃ o its n, h.get? c = some o ∧ o.cls = .type "tuple" ∧ o.data = .seq its n ∧ ∀ v ∈ its.toList, ∃ i, NestedIs h (.num i) v := by
  cases x with
  | @tup _ o vs n _ h1 h2 h3 h4 =>
    refine ⟨o, vs, n, h1, h2, h3, fun v hv => ?_⟩
    generalize vs.toList = l at h4 hv
    cases h4 with
    | cons a1 a2 =>
      cases a2 with
      | cons b1 b2 =>
        cases b2
        rcases List.mem_cons.mp hv with e | hv
        · exact ⟨_, e ▸ a1⟩
        · rcases List.mem_cons.mp hv with e | hv
          · exact ⟨_, e ▸ b1⟩
          · cases hv
/-! ### small questions -/
theorem ofA_tuple {n c : Nat} {b : Addr} {o : Obj} {its : Array Value} {Q : Bool → Shared → Prop} (ho : s.heap.get? b = some o) (hc : o.cls = .type "tuple") (hd : o.data = .seq its c)
    (hit : ∀ v ∈ its.toList, ∀ Q : Bool → Shared → Prop, Q false s → wpAny (model P w) A (ofAClassStatement n v) Q E s) (h : Q false s) : wpAny (model P w) A (ofAClassStatement (n + 1) (.ref b)) Q E s := by
  unfold ofAClassStatement
  refine wpAny_bind (wpAny_typeOf ⟨o, ho, hc⟩ ?_)
  dsimp only
  have e : (("tuple" : String) == "tuple") = true := by decide
  simp only [e, if_true, Bool.not_true, Bool.false_eq_true, if_false]
  try refine wpAny_bind (wpAny_pure ?_)
  try simp only [Bool.not_true, Bool.false_eq_true, if_false]
  show wpAny _ _ (seqItems? (.ref b) >>= _) _ _ s
  refine wpAny_bind (wpAny_seqItems ho hd ?_)
  dsimp only
  refine wpAny_bind ?_
  show wpAny _ _ (forIn its _ _) _ _ s
  rw [← Array.forIn_toList]
  refine wpAny_forIn_list _ (fun rest r s' => r.1 = none ∧ s' = s ∧ ∀ v ∈ rest, v ∈ its.toList) _ ?_ ?_ _ _ ⟨rfl, rfl, fun _ z => z⟩
  · rintro v rest r s' ⟨hr, rfl, hall⟩
    refine wpAny_bind (hit v (hall v List.mem_cons_self) _ ?_)
    simp only [Bool.false_eq_true, if_false]
    exact wpAny_pure ⟨rfl, rfl, fun u hu' => hall u (List.mem_cons_of_mem _ hu')⟩
  · rintro ⟨r1, r2⟩ s' ⟨hr, rfl, _⟩
    simp only at hr
    subst hr
    exact wpAny_pure h
theorem hashBy_tuple {n c : Nat} {b : Addr} {o : Obj} {its : Array Value} {Q : Bool → Shared → Prop} (ho : s.heap.get? b = some o) (hc : o.cls = .type "tuple") (hd : o.data = .seq its c)
    (hit : ∀ v ∈ its.toList, ∀ Q : Bool → Shared → Prop, Q true s → wpAny (model P w) A (hashByValue n v) Q E s) (h : Q true s) : wpAny (model P w) A (hashByValue (n + 1) (.ref b)) Q E s := by
  unfold hashByValue
  refine wpAny_bind (wpAny_specialOf ⟨o, ho, hc⟩ F.slot_tuple_hash.lookup ?_)
  show wpAny _ _ (seqItems? (.ref b) >>= _) _ _ s
  refine wpAny_bind (wpAny_seqItems ho hd ?_)
  refine wpAny_bind ?_
  show wpAny _ _ (forIn its _ _) _ _ s
  rw [← Array.forIn_toList]
  refine wpAny_forIn_list _ (fun rest r s' => r.1 = none ∧ s' = s ∧ ∀ v ∈ rest, v ∈ its.toList) _ ?_ ?_ _ _ ⟨rfl, rfl, fun _ z => z⟩
  · rintro v rest r s' ⟨hr, rfl, hall⟩
    refine wpAny_bind (hit v (hall v List.mem_cons_self) _ ?_)
    simp only [Bool.not_true, Bool.false_eq_true, if_false]
    exact wpAny_pure ⟨rfl, rfl, fun u hu' => hall u (List.mem_cons_of_mem _ hu')⟩
  · rintro ⟨r1, r2⟩ s' ⟨hr, rfl, _⟩
    simp only at hr
    subst hr
    exact wpAny_pure h
theorem ofA_num {n : Nat} {i : Int} {v : Value} {Q : Bool → Shared → Prop} (x : NestedIs s.heap (.num i) v) (h : Q false s) : wpAny (model P w) A (ofAClassStatement n v) Q E s := by
  rcases num_shape x with ⟨b, rfl⟩ | ⟨t, rfl⟩ <;> cases n <;> exact wpAny_pure h
theorem hashBy_num {n : Nat} {i : Int} {v : Value} {Q : Bool → Shared → Prop} (x : NestedIs s.heap (.num i) v) (h : Q true s) : wpAny (model P w) A (hashByValue n v) Q E s := by
  rcases num_shape x with ⟨b, rfl⟩ | ⟨t, rfl⟩ <;> cases n <;> exact wpAny_pure h
theorem ofA_key {k : K3} {b : Addr} {Q : Bool → Shared → Prop} (x : IsK s.heap k b) (h : Q false s) : wpAny (model P w) A (ofAClassStatement 8 (.ref b)) Q E s := by
  obtain ⟨o, its, n, h1, h2, h3, h4⟩ := isK_type x
  refine ofA_tuple h1 h2 h3 (fun v hv Q q => ?_) h
  rcases h4 v hv with ⟨i, y⟩ | ⟨c, i, j, rfl, y⟩
  · exact ofA_num y q
  · obtain ⟨o2, its2, n2, g1, g2, g3, g4⟩ := pair_shape y
    exact ofA_tuple g1 g2 g3 (fun u hu Q q => let ⟨i, z⟩ := g4 u hu; ofA_num z q) q
theorem hashBy_key {k : K3} {b : Addr} {Q : Bool → Shared → Prop} (x : IsK s.heap k b) (h : Q true s) : wpAny (model P w) A (hashByValue 8 (.ref b)) Q E s := by
  obtain ⟨o, its, n, h1, h2, h3, h4⟩ := isK_type x
  refine hashBy_tuple h1 h2 h3 (fun v hv Q q => ?_) h
  rcases h4 v hv with ⟨i, y⟩ | ⟨c, i, j, rfl, y⟩
  · exact hashBy_num y q
  · obtain ⟨o2, its2, n2, g1, g2, g3, g4⟩ := pair_shape y
    exact hashBy_tuple g1 g2 g3 (fun u hu Q q => let ⟨i, z⟩ := g4 u hu; hashBy_num z q) q
theorem quiet_K {k : K3} {b : Addr} {Q : Bool → Shared → Prop} (x : IsK s.heap k b) (h : Q true s) : wpAny (model P w) A (eqIsQuiet 8 (.ref b)) Q E s := (nestedKind P w).quiet (isK_nk x) h
theorem eqB_K {x y : K3} {a b : Addr} {Q : Bool → Shared → Prop} (hu : A.units + 8 < cLine) (hx : IsK s.heap x a) (hy : IsK s.heap y b) (h : Q (decide (x = y)) s) : wpAny (model P w) A (eqBool (.ref a) (.ref b)) Q E s := by
  refine (nestedKind P w).eqBool hu (isK_nk hx) (isK_nk hy) ?_
  have e : decide (nk x = nk y) = decide (x = y) := by
    by_cases c : x = y
    · rw [decide_eq_true c, decide_eq_true (congrArg nk c)]
    · rw [decide_eq_false c, decide_eq_false fun z => c (nk_inj z)]
  rw [e]
  exact h
theorem seen_K {k : K3} {b : Addr} {Q : Bool → Shared → Prop} (hk : IsK s.heap k b) {ys : List Value} (hy : ∀ y ∈ ys, ∃ k' c, y = Value.ref c ∧ IsK s.heap k' c) (h : Q false s) : wpAny (model P w) A (searchCouldBeSeen (.ref b) ys) Q E s := by
  unfold searchCouldBeSeen
  refine wpAny_bind ?_
  refine wpAny_forIn_list _ (fun rest r s' => r.1 = none ∧ s' = s ∧ ∀ y ∈ rest, y ∈ ys) _ ?_ ?_ _ _ ⟨rfl, rfl, fun _ z => z⟩
  · rintro v rest r s' ⟨hr, rfl, hall⟩
    obtain ⟨k', c, rfl, hc⟩ := hy v (hall v List.mem_cons_self)
    have goon : ∀ y ∈ rest, y ∈ ys := fun u hu' => hall u (List.mem_cons_of_mem _ hu')
    dsimp only
    by_cases hv : (b == c || (carriedByValue (.ref b) && carriedByValue (.ref c))) = true
    · exact wp_if_pos hv (wpAny_pure ⟨rfl, rfl, goon⟩)
    · refine wp_if_neg hv (wpAny_bind (quiet_K hk ?_))
      simp only [Bool.not_true, Bool.false_eq_true, if_false]
      refine wpAny_bind (quiet_K hc ?_)
      simp only [Bool.not_true, Bool.false_eq_true, if_false]
      refine wpAny_bind (ofA_key hk ?_)
      simp only [Bool.false_eq_true, if_false]
      refine wpAny_bind (ofA_key hc ?_)
      simp only [Bool.false_eq_true, if_false]
      exact wpAny_pure ⟨rfl, rfl, goon⟩
  · rintro ⟨r1, r2⟩ s' ⟨hr, rfl, _⟩
    simp only at hr
    subst hr
    exact wpAny_pure h

/-! ### the set -/
abbrev Row := Addr × K3
def rws (κ : K3 → Int) (L : List Row) : List (Int × Value) := L.map fun p => (κ p.2, Value.ref p.1)
theorem rws_len (κ : K3 → Int) (L : List Row) : (rws κ L).length = L.length := by unfold rws; rw [List.length_map]
structure Sr (w : World) (κ : K3 → Int) (h : Heap) (a : Addr) (L : List Row) (es : Array (Int × Value)) (ep : Nat) (t : SetTable) : Prop where
  ob : ∃ o, h.get? a = some o ∧ o.ExactSet ∧ o.data = .set es ep t
  rows : es.toList = rws κ L
  tab : Tb t (L.map fun p => κ p.2)
  nd : (L.map (·.2)).Nodup
  keys : ∀ p ∈ L, IsK h p.2 p.1
  plain : t.plain = true
  led : w.params.followText "set-order" = true ∨ t.led = true
  room : L.length * 5 < t.mask * 3
variable {κ : K3 → Int} {a : Addr} {L : List Row} {es : Array (Int × Value)} {ep : Nat} {t : SetTable}
theorem es_size (h : es.toList = rws κ L) : es.size = L.length := by
  rw [← Array.length_toList, h, rws_len]
theorem es_at (h : es.toList = rws κ L) {i : Nat} {p : Row} (hp : L[i]? = some p) : es[i]? = some (κ p.2, Value.ref p.1) := by
  rw [← Array.getElem?_toList, h]
  unfold rws
  rw [List.getElem?_map, hp] <;> rfl
theorem Sr.fits (R : Sr w κ s.heap a L es ep t) : t.fits es.size = true := by
  have h1 := R.tab.sz
  rw [List.length_map] at h1
  have h2 := es_size R.rows
  have h3 := R.room
  unfold SetTable.fits SetTable.fill
  rw [R.tab.dm, Bool.and_eq_true, beq_iff_eq, decide_eq_true_eq]
  show t.place.size = es.size ∧ t.place.size + 0 ≤ t.mask
  omega
theorem Sr.noGw (R : Sr w κ s.heap a L es ep t) : ¬ t.gaveWay = true := by
  unfold SetTable.gaveWay
  rw [mk_odd R.tab.mok]
  decide
theorem no_dummy (m : Nat) : ∀ (n : Nat) (p : SetTable.Probe), p.dummy = none → (nth m p n).dummy = none
  | 0, _, h => h
  | n + 1, p, h => no_dummy m n (adv m p) (by unfold adv; split <;> exact h)

/-- the search, from the c-th step of the way on; k0: the way's first free slot -/
theorem search_on (R : Sr w κ s.heap a L es ep t) {x : Addr} {k : K3} (hx : IsK s.heap k x) (hu : A.units + 8 < cLine) {k0 : Nat} (hf0 : k0 < 10 * SetTable.turns t.mask)
    (hk0 : way t.mask (κ k) k0 ∉ t.place.toList) (hb : ∀ c, c < k0 → way t.mask (κ k) c ∈ t.place.toList) {Q : SetFound → Shared → Prop}
    (yes : k ∈ L.map (·.2) → Q (.there none) s) (no : k ∉ L.map (·.2) → Q (.free (way t.mask (κ k) k0) false) s) :
    ∀ (f c : Nat) (stand : Option SetTable.Probe), stand.getD (t.probeStart (κ k)) = nth t.mask (runAt t.mask (SetTable.bits (κ k) % (t.mask + 1)) (SetTable.bits (κ k))) c → c ≤ k0 → k0 - c < f →
      (∀ (i : Nat) p, L[i]? = some p → p.2 = k → ∃ c', c ≤ c' ∧ c' < k0 ∧ t.place.toList[i]? = some (way t.mask (κ k) c')) →
      wpAny (model P w) A (setSearchFrom a (.ref x) (κ k) true f stand) Q E s := by
  intro f
  induction f with
  | zero => exact fun c stand _ _ hf _ => absurd hf (Nat.not_lt_zero _)
  | succ f ih =>
    intro c stand hst hc hf hre
    obtain ⟨o, ho, hex, hd⟩ := R.ob
    rw [setSearchFrom_succ]
    refine wpAny_bind (wpAny_setState_of ho hd R.fits ?_)
    dsimp only
    refine wp_if_neg R.noGw ?_
    try refine wpAny_bind (wpAny_pure ?_)
    generalize hp0 : runAt t.mask (SetTable.bits (κ k) % (t.mask + 1)) (SetTable.bits (κ k)) = p0 at hst
    have wy : ∀ q, (nth t.mask (nth t.mask p0 c) q).j = way t.mask (κ k) (c + q) := fun q => by
      rw [← nth_add, ← hp0]
    have nd0 : (nth t.mask p0 c).dummy = none := no_dummy _ _ _ (by rw [← hp0]; rfl)
    have ha : ∀ (i : Nat) p, L[i]? = some p → (es[i]?.map (·.1)).getD 0 = κ p.2 := fun i p hp => by rw [es_at R.rows hp]; rfl
    rcases go_spec t R.tab.ris R.tab.dm (fun i => (es[i]?.map (·.1)).getD 0) (κ k) (10 * SetTable.turns t.mask) (k0 - c) (nth t.mask p0 c) nd0 (by omega)
      (fun q hq => by rw [wy]; exact hb (c + q) (by omega)) (by rw [wy, show c + (k0 - c) = k0 by omega]; exact hk0) with ⟨q, i, hq, hi, hh, hno, hpr⟩ | ⟨hno, hpr⟩
    · have hpr' : t.probe (fun i => (es[i]?.map (·.1)).getD 0) (κ k) (stand.getD (t.probeStart (κ k))) = some (.candidate (way t.mask (κ k) (c + q)) i (nth t.mask p0 (c + (q + 1)))) := by
        rw [hst, ← wy, nth_add]
        exact hpr
      rw [hpr']
      dsimp only
      rw [wy] at hi
      have hil : i < L.length := by
        have h1 := (List.getElem?_eq_some_iff.mp hi).1
        have h2 := R.tab.sz
        rw [List.length_map] at h2
        rw [Array.length_toList] at h1
        omega
      obtain ⟨p, hp⟩ : ∃ p, L[i]? = some p := ⟨_, List.getElem?_eq_getElem hil⟩
      have hmem : p ∈ L := List.mem_of_getElem? hp
      have hsl : t.slot (way t.mask (κ k) (c + q)) = .live i := slot_live R.tab.ris hi
      have rest : wpAny (model P w) A (searchRest a (.ref x) (κ k) true f es t (way t.mask (κ k) (c + q)) i (nth t.mask p0 (c + (q + 1)))) Q E s := by
        unfold searchRest
        rw [es_at R.rows hp]
        dsimp only
        refine wpAny_bind (wpAny_holding (eqB_K hu (R.keys p hmem) hx ?_))
        refine wpAny_bind (wpAny_setState_of ho hd R.fits ?_)
        dsimp only
        by_cases hkk : p.2 = k
        · exact wp_if_pos (by simp [hkk]) (wpAny_pure (yes (List.mem_map.mpr ⟨p, hmem, hkk⟩)))
        · refine wp_if_neg (by simp [hkk]) ?_
          try refine wpAny_bind (wpAny_pure ?_)
          rw [sameMem]
          dsimp only
          simp only [if_true, hsl, es_at R.rows hp]
          refine wpAny_bind (wpAny_isSame_ref_self (wpAny_bind (wpAny_pure ?_)))
          simp only [if_true]
          refine wp_if_neg (by simp [hkk]) ?_
          refine ih (c + (q + 1)) _ (by rw [hp0]; rfl) (by omega) (by omega) fun i0 p1 h0 hk1 => ?_
          obtain ⟨c', a1, a2, a3⟩ := hre i0 p1 h0 hk1
          refine ⟨c', Classical.byContradiction fun z => ?_, a2, a3⟩
          rcases Nat.lt_or_ge c' (c + q) with y | y
          · exact hno (c' - c) i0 (by omega) (by rw [wy, show c + (c' - c) = c' by omega]; exact a3) ((ha i0 p1 h0).trans (congrArg κ hk1))
          · have ec : c' = c + q := by omega
            rw [ec] at a3
            have s0 := slot_live R.tab.ris a3
            rw [hsl] at s0
            injection s0 with s0
            rw [← s0, hp] at h0
            exact hkk ((congrArg Prod.snd (Option.some.inj h0)).trans hk1)
      by_cases hl : t.led = true
      · refine wp_if_neg (by simp [hl]) ?_
        try refine wpAny_bind (wpAny_pure ?_)
        exact rest
      · refine wp_if_pos (by simp [hl]) ?_
        refine wpAny_bind (seen_K hx (fun y hy => ?_) ?_)
        · obtain ⟨e, he, ee⟩ := List.mem_map.mp hy
          have he1 : e ∈ es ∧ e.1 = κ k := by simpa using he
          have he2 : e ∈ es.toList := by simpa using he1.1
          rw [R.rows] at he2
          obtain ⟨p2, hp2, e2⟩ := List.mem_map.mp he2
          exact ⟨p2.2, p2.1, by rw [← ee, ← e2], R.keys p2 hp2⟩
        · refine wp_if_neg (by decide) ?_
          try refine wpAny_bind (wpAny_pure ?_)
          exact rest
    · have hpr' : t.probe (fun i => (es[i]?.map (·.1)).getD 0) (κ k) (stand.getD (t.probeStart (κ k))) = some (.empty (way t.mask (κ k) k0) none) := by
        rw [hst]
        refine hpr.trans ?_
        rw [wy, show c + (k0 - c) = k0 by omega]
      rw [hpr']
      dsimp only
      refine wpAny_pure (no fun hm => ?_)
      obtain ⟨p1, h0, hk1⟩ := List.mem_map.mp hm
      obtain ⟨i0, h00⟩ := List.mem_iff_getElem?.mp h0
      obtain ⟨c', a1, a2, a3⟩ := hre i0 p1 h00 hk1
      exact hno (c' - c) i0 (by omega) (by rw [wy, show c + (c' - c) = c' by omega]; exact a3) ((ha i0 p1 h00).trans (congrArg κ hk1))
theorem search_add (R : Sr w κ s.heap a L es ep t) {x : Addr} {k : K3} (hx : IsK s.heap k x) (hu : A.units + 8 < cLine) {Q : SetFound → Shared → Prop} (yes : k ∈ L.map (·.2) → Q (.there none) s)
    (no : ∀ k0, k ∉ L.map (·.2) → way t.mask (κ k) k0 ∉ t.place.toList → (∀ c, c < k0 → way t.mask (κ k) c ∈ t.place.toList) → Q (.free (way t.mask (κ k) k0) false) s) :
    wpAny (model P w) A (setSearch a (.ref x) (κ k) true) Q E s := by
  have hroom := R.room
  obtain ⟨k0, hf, h1, h2⟩ := R.tab.free (by rw [List.length_map]; omega) (κ k)
  have hbig : k0 < 100000 := by
    have : 10 * SetTable.turns t.mask ≤ 99000 := by
      unfold SetTable.turns
      rcases R.tab.mok with e | e | e | e | e | e <;> omega
    omega
  unfold setSearch
  refine search_on R hx hu hf h1 h2 yes (fun z => no k0 z h1 h2) 100000 0 none rfl (Nat.zero_le _) (by omega) fun i p hp hk => ?_
  have hi : (L.map fun p => κ p.2)[i]? = some (κ k) := by rw [List.getElem?_map, hp, ← hk] <;> rfl
  have hil : i < t.place.toList.length := by
    have g1 := (List.getElem?_eq_some_iff.mp hp).1
    have g2 := R.tab.sz
    rw [List.length_map] at g2
    rw [Array.length_toList]
    omega
  have hj := List.getElem?_eq_getElem hil
  obtain ⟨c, hc, e⟩ := R.tab.ahead h1 hi hj
  exact ⟨c, Nat.zero_le _, hc, by rw [hj, e]⟩
end
end SN
end Sec_S2
section Sec_S3
set_option maxRecDepth 100000
/-! Sets of many nested tuples, 3: add, set(xs), sorted(set(xs)). -/
namespace SN
open PySem PySem.Spec PyProof.Rows L2
theorem nd_len {α : Type} [DecidableEq α] : ∀ (l D : List α), l.Nodup → (∀ x ∈ l, x ∈ D) → l.length ≤ D.length
  | [], _, _, _ => Nat.zero_le _
  | x :: l, D, hn, hs => by
    obtain ⟨h1, h2⟩ := List.nodup_cons.mp hn
    have hx := hs x List.mem_cons_self
    have ih := nd_len l (D.erase x) h2 fun y hy => (List.mem_erase_of_ne (fun e : y = x => h1 (e ▸ hy))).2 (hs y (List.mem_cons_of_mem _ hy))
    have := List.length_erase_of_mem hx
    have := List.length_pos_of_mem hx
    rw [List.length_cons]
    omega
section
variable {P : Program} {w : World} {A : Around} {E : Value → Shared → Prop} {s : Shared} {κ : K3 → Int} {a : Addr} {L : List Row} {es : Array (Int × Value)} {ep : Nat} {t : SetTable}
theorem picked (hr : es.toList = rws κ L) (order : Array Nat) (hp : order.toList.Perm (List.range L.length)) :
    ∃ L2, (order.filterMap (es[·]?)).toList = rws κ L2 ∧ L2.Perm L ∧ (L2.map fun p => κ p.2) = order.toList.map fun i => (es.map (·.1)).getD i 0 := by
  have go : ∀ l : List Nat, (∀ i ∈ l, i < L.length) → l.filterMap (fun i => es[i]?) = rws κ (l.filterMap fun i => L[i]?) ∧ ((l.filterMap fun i => L[i]?).map fun p => κ p.2) = l.map fun i => (es.map (·.1)).getD i 0 := by
    intro l
    induction l with
    | nil => exact fun _ => ⟨rfl, rfl⟩
    | cons i l ih =>
      intro hl
      obtain ⟨e1, e2⟩ := ih fun j hj => hl j (List.mem_cons_of_mem _ hj)
      have hi := List.getElem?_eq_getElem (hl i List.mem_cons_self)
      have he := es_at hr hi
      rw [List.filterMap_cons_some he, List.filterMap_cons_some hi, e1, List.map_cons, List.map_cons, e2]
      refine ⟨rfl, ?_⟩
      congr 1
      rw [Array.getD_eq_getD_getElem?, Array.getElem?_map, he]
      rfl
  obtain ⟨e1, e2⟩ := go order.toList fun i hi => List.mem_range.mp (hp.mem_iff.mp hi)
  refine ⟨_, by simpa using e1, ?_, e2⟩
  refine (hp.filterMap fun i => L[i]?).trans (List.Perm.of_eq ?_)
  have : ∀ n, n ≤ L.length → (List.range n).filterMap (fun i => L[i]?) = L.take n := by
    intro n
    induction n with
    | zero => exact fun _ => rfl
    | succ n ih =>
      intro hn
      rw [List.range_succ, List.filterMap_append, ih (Nat.le_of_lt hn), List.take_succ, List.getElem?_eq_getElem hn]
      simp [List.getElem?_eq_getElem hn]
  rw [this _ (Nat.le_refl _), List.take_length]
theorem relay_K {o : Obj} (ho : s.heap.get? a = some o) (hex : o.ExactSet) (hd : o.data = .set es ep t) (hrows : es.toList = rws κ L) (hsz : t.place.size = es.size) (hdm : t.dummies = #[]) (hfl : es.size ≤ t.mask)
    (nd : (L.map (·.2)).Nodup) (keys : ∀ p ∈ L, IsK s.heap p.2 p.1) (pl : t.plain = true) (ld : w.params.followText "set-order" = true ∨ t.led = true) {wanted M : Nat}
    (hw : SetTable.sizeAbove wanted - 1 = M) (hM : MK M) (hw2 : SetTable.sizeAbove wanted ≤ 8192) (hn : L.length * 5 < M * 3) {Q : Unit → Shared → Prop}
    (hQ : ∀ h' L' es' ep' t', Heap.SameBut a s.heap h' → Sr w κ h' a L' es' ep' t' → L'.Perm L → Q () { s with heap := h' }) : wpAny (model P w) A (setRelay a wanted) Q E s := by
  have hsl := es_size hrows
  have hfits : t.fits es.size = true := by
    unfold SetTable.fits SetTable.fill
    rw [hdm, Bool.and_eq_true, beq_iff_eq, decide_eq_true_eq]
    show t.place.size = es.size ∧ t.place.size + 0 ≤ t.mask
    omega
  obtain ⟨t', order, e, hp, T, em, el, ep'⟩ := relay_ok t (hs := es.map (·.1)) (wanted := wanted) hw hM (by rw [Array.size_map, hsl]; omega)
  rw [Array.size_map, hsl] at hp
  obtain ⟨L2, r1, r2, r3⟩ := picked hrows order hp
  rw [← r3] at T
  have hs2 : (order.filterMap (es[·]?)).size = es.size := by rw [es_size r1, r2.length_eq, hsl]
  have hM8 : L.length < 8192 := by rcases hM with e | e | e | e | e | e <;> omega
  rw [setRelay_eq]
  refine wpAny_bind (wpAny_setState_of ho hd hfits ?_)
  dsimp only
  refine wp_if_neg (by rw [sizeLine_eq]; omega) ?_
  try refine wpAny_bind (wpAny_pure ?_)
  rw [e]
  dsimp only
  refine wpAny_bind ?_
  refine wp_if_neg (by rw [hs2]; simp) ?_
  try refine wpAny_bind (wpAny_pure ?_)
  refine wpAny_pure ?_
  dsimp only
  refine wpAny_storeSet_of ho hd ?_ (by rw [hs2, hsl, sizeLine_eq]; omega)
  have sb : Heap.SameBut a s.heap (s.heap.update a (Obj.putSet (order.filterMap (es[·]?)) t')) := Heap.SameBut.update ..
  exact hQ _ L2 (order.filterMap (es[·]?)) (ep + 1) t' sb ⟨⟨_, store_at ho hd, ⟨hex.1, hex.2.1, hex.2.2⟩, rfl⟩, r1, T, (r2.map (·.2)).nodup_iff.mpr nd, fun p hpm => isK_but (keys p (r2.mem_iff.mp hpm)) ho hd sb, ep' ▸ pl, el ▸ ld, by rw [r2.length_eq, em]; exact hn⟩ r2
theorem add_K (R : Sr w κ s.heap a L es ep t) {x : Addr} {k : K3} (hx : IsK s.heap k x) (hu : A.units + 8 < cLine) (hfew : L.length + 1 < 4096) {Q : Bool → Shared → Prop}
    (hQ : ∀ b h' L' es' ep' t', Heap.SameBut a s.heap h' → Sr w κ h' a L' es' ep' t' → (k ∈ L.map (·.2) → L' = L) → (k ∉ L.map (·.2) → L'.Perm ((x, k) :: L)) → Q b { s with heap := h' }) :
    wpAny (model P w) A (setAddHashed a (.ref x) (κ k)) Q E s := by
  obtain ⟨o, ho, hex, hd⟩ := R.ob
  have hsl := es_size R.rows
  have hroom := R.room
  unfold setAddHashed
  refine wpAny_holding ?_
  rw [show (100000 : Nat) = 99999 + 1 from rfl, setAddHashedIn_succ]
  refine wpAny_bind (wpAny_setState_of ho hd R.fits ?_)
  dsimp only
  refine wp_if_neg (by simp [byScan, Value.scannable]) ?_
  try refine wpAny_bind (wpAny_pure ?_)
  refine wpAny_bind (search_add R hx hu (fun hm => ?_) fun k0 hm hk hb => ?_)
  · dsimp only
    exact wpAny_pure (hQ false s.heap L es ep t (Heap.SameBut.refl a s.heap) R (fun _ => rfl) fun z => absurd hm z)
  · dsimp only
    refine wpAny_bind (wpAny_setState_of ho hd R.fits ?_)
    dsimp only
    generalize hp : SetTable.below t.place (way t.mask (κ k) k0) = p
    obtain ⟨hle, T, hfill⟩ := R.tab.put hk hb hp
    rw [List.length_map] at hle hfill
    have q2 : (t.put (way t.mask (κ k) k0)).2 = p := hp
    have q4 : (t.put (way t.mask (κ k) k0)).1.mask = t.mask := rfl
    have q5 : (t.put (way t.mask (κ k) k0)).1.led = t.led := rfl
    have q6 : (t.put (way t.mask (κ k) k0)).1.plain = true := R.plain
    have q7 : (t.put (way t.mask (κ k) k0)).1.dummies = #[] := put_dm R.tab.dm _
    generalize t.put (way t.mask (κ k) k0) = pt at T hfill q2 q4 q5 q6 q7 ⊢
    obtain ⟨t1, p'⟩ := pt
    dsimp only at T hfill q2 q4 q5 q6 q7 ⊢
    subst q2
    first
      | (refine wpAny_bind ?_; refine wp_if_pos q6 ?_; refine hashBy_key hx ?_)
      | refine wp_if_pos q6 (wpAny_bind (hashBy_key hx ?_))
    simp only [if_true]
    have hin : (SetTable.insertAt es p' (κ k, Value.ref x)).toList = rws κ (L.take p' ++ (x, k) :: L.drop p') := by
      rw [SetTable.toList_insertAt, R.rows]
      unfold rws
      rw [List.map_append, List.map_cons, List.map_take, List.map_drop]
    have pm := put_perm L p' (x, k)
    have hlen : (L.take p' ++ (x, k) :: L.drop p').length = L.length + 1 := pm.length_eq
    have hhs : (L.take p' ++ (x, k) :: L.drop p').map (fun p => κ p.2) = (L.map fun p => κ p.2).take p' ++ κ k :: (L.map fun p => κ p.2).drop p' := by
      rw [List.map_append, List.map_cons, List.map_take, List.map_drop]
    rw [← hhs] at T
    have nd1 : ((L.take p' ++ (x, k) :: L.drop p').map (·.2)).Nodup := (pm.map (·.2)).nodup_iff.mpr (List.nodup_cons.mpr ⟨hm, R.nd⟩)
    have hes := es_size hin
    rw [hlen] at hes
    generalize SetTable.insertAt es p' (κ k, Value.ref x) = es1 at hin hes ⊢
    generalize L.take p' ++ (x, k) :: L.drop p' = L1 at pm hlen T nd1 hin
    refine wpAny_bind (wpAny_storeSet_of ho hd ?_ (by rw [hes, sizeLine_eq]; omega))
    have sb : Heap.SameBut a s.heap (s.heap.update a (Obj.putSet es1 t1)) := Heap.SameBut.update ..
    have ho1 := store_at (es' := es1) (t' := t1) ho hd
    generalize s.heap.update a (Obj.putSet es1 t1) = h1 at sb ho1 ⊢
    have keys1 : ∀ p ∈ L1, IsK h1 p.2 p.1 := fun p hp => by
      rcases List.mem_cons.mp (pm.mem_iff.mp hp) with e | hp
      · rw [e]; exact isK_but hx ho hd sb
      · exact isK_but (R.keys p hp) ho hd sb
    have ld1 : w.params.followText "set-order" = true ∨ t1.led = true := q5 ▸ R.led
    have full : t1.tooFull = decide ((L.length + 1) * 5 ≥ t.mask * 3) := by
      unfold SetTable.tooFull
      rw [hfill, q4]
    by_cases hf : t1.tooFull = true
    · first
        | (refine wpAny_bind ?_; refine wp_if_pos (by simp [hf]) ?_)
        | (refine wp_if_pos (by simp [hf]) ?_; refine wpAny_bind ?_)
      rw [full, decide_eq_true_eq] at hf
      obtain ⟨g1, g2, g3, g4, g5⟩ := grows R.tab.mok hroom hf hfew
      rw [hsl]
      have hsz1 : t1.place.size = es1.size := by rw [T.sz, List.length_map, hlen, hes]
      refine relay_K (s := { s with heap := h1 }) ho1 ⟨hex.1, hex.2.1, hex.2.2⟩ rfl hin hsz1 q7 (by rw [hes, q4]; exact g5) nd1 keys1 q6 ld1 g1 g2 g3 (by rw [hlen]; exact g4) ?_
      intro h2 L2 es2 ep2 t2 sb2 R2 pm2
      exact wpAny_pure (hQ true h2 L2 es2 ep2 t2 (sb.trans sb2) R2 (fun z => absurd z hm) fun _ => pm2.trans pm)
    · first
        | refine wp_if_neg (by simp [hf]) ?_
        | (refine wpAny_bind ?_; refine wp_if_neg (by simp [hf]) ?_; refine wpAny_pure ?_)
      rw [full, decide_eq_true_eq] at hf
      exact wpAny_pure (hQ true h1 L1 es1 (ep + 1) t1 sb ⟨⟨_, ho1, ⟨hex.1, hex.2.1, hex.2.2⟩, rfl⟩, hin, T, nd1, keys1, q6, ld1, by rw [hlen, q4]; omega⟩ (fun z => absurd z hm) fun _ => pm)

/-! ### set(xs) -/
/-- what the set holds of the first i items -/
structure Has (ks : List Row) (i : Nat) (L : List Row) : Prop where
  sub : ∀ p ∈ L, p ∈ ks.take i
  all : ∀ p ∈ ks.take i, p.2 ∈ L.map (·.2)
theorem Has.next {ks L L' : List Row} {i : Nat} {x : Row} (g : Has ks i L) (h : ks[i]? = some x) (c1 : x.2 ∈ L.map (·.2) → L' = L) (c2 : x.2 ∉ L.map (·.2) → L'.Perm (x :: L)) : Has ks (i + 1) L' := by
  have tk : ks.take (i + 1) = ks.take i ++ [x] := by rw [List.take_succ, h]; rfl
  rw [show Has ks (i + 1) L' = Has ks (i + 1) L' from rfl]
  rcases Classical.em (x.2 ∈ L.map (·.2)) with c | c
  · rw [c1 c]
    refine ⟨fun p hp => by rw [tk]; exact List.mem_append_left _ (g.sub p hp), fun p hp => ?_⟩
    rw [tk] at hp
    rcases List.mem_append.mp hp with z | z
    · exact g.all p z
    · rw [List.mem_singleton.mp z]; exact c
  · have pm := c2 c
    refine ⟨fun p hp => ?_, fun p hp => ?_⟩
    · rw [tk]
      rcases List.mem_cons.mp (pm.mem_iff.mp hp) with e | z
      · rw [e]; exact List.mem_append_right _ (List.mem_singleton.mpr rfl)
      · exact List.mem_append_left _ (g.sub p z)
    · rw [(pm.map (·.2)).mem_iff]
      rw [tk] at hp
      rcases List.mem_append.mp hp with z | z
      · exact List.mem_cons_of_mem _ (g.all p z)
      · rw [List.mem_singleton.mp z]; exact List.mem_cons_self
/-- few keys -/
def Few (ks : List Row) : Prop := ∃ C : List K3, C.length < 4095 ∧ ∀ p ∈ ks, p.2 ∈ C
theorem Few.len {ks L : List Row} (f : Few ks) (nd : (L.map (·.2)).Nodup) (h : ∀ p ∈ L, p ∈ ks) : L.length < 4095 := by
  obtain ⟨C, h1, h2⟩ := f
  have := nd_len (L.map (·.2)) C nd fun x hx => by
    obtain ⟨p, hp, rfl⟩ := List.mem_map.mp hx
    exact h2 p (h p hp)
  rw [List.length_map] at this
  omega
abbrev hashK (w : World) : K3 → Int := fun k => (nk k).hash w
theorem Sr.keep {h h' : Heap} (R : Sr w κ h a L es ep t) (ha : ∀ o, h.get? a = some o → h'.get? a = some o) (ht : ∀ p ∈ L, IsK h' p.2 p.1) : Sr w κ h' a L es ep t := by
  obtain ⟨o, ho, r⟩ := R.ob
  exact ⟨⟨o, ha o ho, r⟩, R.rows, R.tab, R.nd, ht, R.plain, R.led, R.room⟩
theorem sr_new {h : Heap} {a : Addr} (ho : h.get? a = some { cls := .type "set", dict := none, data := .set #[] 0 (.fresh 0 0 (!w.params.followText "set-order")) }) : Sr w κ h a [] #[] 0 (.fresh 0 0 (!w.params.followText "set-order")) where
  ob := ⟨_, ho, ⟨rfl, rfl, rfl⟩, rfl⟩
  rows := rfl
  tab := ⟨List.Pairwise.nil, rfl, rfl, .inl rfl, fun x hx => (by cases hx), fun i h j hi => (by simp at hi)⟩
  nd := List.nodup_nil
  keys := fun p hp => (by cases hp)
  plain := rfl
  led := by
    show _ ∨ (!w.params.followText "set-order") = true
    cases w.params.followText "set-order"
    · exact .inr rfl
    · exact .inl rfl
  room := by
    show 0 * 5 < 7 * 3
    decide
theorem loop_K (hκ : κ = hashK w) {I : Addr} {fp wr : List Addr} {G : Array GenState → Array GenState → Prop} {n : Nat} {Pv : Nat → Value → Prop} {St : Nat → Shared → Prop} {R : Result → Shared → Prop}
    (W : WalksS P w A.in1 I fp wr G n Pv St) (S : Addr) (hSf : S ∉ fp) (ks : List Row) (hn : n = ks.length) (hfew : Few ks) (hval : ∀ i v, Pv i v → ∃ p, ks[i]? = some p ∧ v = .ref p.1)
    (h0 : Heap) (hk : ∀ p ∈ ks, IsK h0 p.2 p.1) (hS0 : h0.get? S = none) (hw0 : ∀ b ∈ wr, h0.get? b = none) (hu : A.in1.units + 8 < cLine) :
    ∀ (k i : Nat) (s : Shared), n - i = k → i ≤ n → St i s → (∀ b o, h0.get? b = some o → s.heap.get? b = some o) → (∃ L es ep t, Sr w κ s.heap S L es ep t ∧ Has ks i L) →
      (∀ s' L es ep t, Moved (S :: wr) G s s' → Sr w κ s'.heap S L es ep t → Has ks n L → (∀ b o, h0.get? b = some o → s'.heap.get? b = some o) → R (.ok (.ret .none)) s') →
      codeAny (model P w) A (.builtin "set.update.loop" ⟨[.ref S, .ref I], []⟩) R s := by
  have hSw : S ∉ wr := fun h => hSf (W.sub _ h)
  have hsub : ∀ b ∈ wr, b ∈ S :: wr := fun b hb => List.mem_cons_of_mem _ hb
  have keepM : ∀ {s s' : Shared}, Moved wr G s s' → (∀ b o, h0.get? b = some o → s.heap.get? b = some o) → ∀ b o, h0.get? b = some o → s'.heap.get? b = some o := fun hm hkp b o e =>
    hm.heap b o (fun hb => by rw [hw0 b hb] at e; cases e) (hkp b o e)
  intro k
  induction k with
  | zero =>
    intro i s hk' hi hst hkp ⟨L, es, ep, t, hS, g⟩ hR
    obtain rfl : i = n := by omega
    refine codeAny_builtin F.entry_set_update_loop ?_
    rw [Around.under_plainId F.plain_set_update_loop _]
    show wpAny _ A.in1 (pyNext (.ref I) >>= _) _ _ s
    refine wpAny_bind (W.done s _ _ hst fun s' hm => ?_)
    show wpAny _ A.in1 (ret Value.none) _ _ s'
    have hkp' := keepM hm hkp
    exact wpAny_pure (hR s' L es ep t (hm.mono hsub) (hS.keep (fun o e => hm.heap S o hSw e) fun p hp => isK_keep (hk p (List.mem_of_mem_take (g.sub p hp))) hkp') g hkp')
  | succ k ih =>
    intro i s hk' hi hst hkp ⟨L, es, ep, t, hS, g⟩ hR
    have hlt : i < n := by omega
    refine codeAny_builtin F.entry_set_update_loop ?_
    rw [Around.under_plainId F.plain_set_update_loop _]
    show wpAny _ A.in1 (pyNext (.ref I) >>= _) _ _ s
    refine wpAny_bind (W.item i s _ _ hlt hst fun v s' hP hst' hm => ?_)
    obtain ⟨p, hp, rfl⟩ := hval i v hP
    have hkp' := keepM hm hkp
    have sub : ∀ p ∈ L, p ∈ ks := fun p hp => List.mem_of_mem_take (g.sub p hp)
    have hS' : Sr w κ s'.heap S L es ep t := hS.keep (fun o e => hm.heap S o hSw e) fun q hq => isK_keep (hk q (sub q hq)) hkp'
    have hx : IsK s'.heap p.2 p.1 := isK_keep (hk p (List.mem_of_getElem? hp)) hkp'
    show wpAny _ A.in1 (holding [Value.ref p.1] (setAdd S (.ref p.1)) >>= _) _ _ s'
    refine wpAny_bind (wpAny_holding ?_)
    unfold setAdd
    refine wpAny_holding ?_
    refine wpAny_bind ((nestedKind P w).pyHash hu (isK_nk hx) ?_)
    have hh : (nestedKind P w).hash (nk p.2) = κ p.2 := by rw [hκ]; rfl
    rw [hh]
    generalize hd : (nestedKind P w).draws (nk p.2) = dn
    refine add_K (s := { s' with toks := s'.toks + dn }) hS' hx hu (by have := hfew.len hS.nd sub; omega) fun b h' L' es' ep' t' hsb hS2 c1 c2 => ?_
    have g' : Has ks (i + 1) L' := g.next hp c1 c2
    have hkp2 : ∀ b o, h0.get? b = some o → h'.get? b = some o := fun b o e => (hsb.2 b (fun z => by rw [z, hS0] at e; cases e)).trans (hkp' b o e)
    refine wpAny_pure ⟨plainId_quiet F.plain_set_update_loop _, ih (i + 1) _ (by omega) hlt (W.frame _ s' _ _ hst' (Nat.le_add_right _ _) fun b hb o e => ?_) hkp2 ⟨L', es', ep', t', hS2, g'⟩ fun s'' L2 es2 ep2 t2 hm'' hS'' g'' hkp'' => ?_⟩
    · rw [hsb.2 b (fun h : b = S => hSf (by rw [← h]; exact hb))]; exact e
    · refine hR s'' L2 es2 ep2 t2 (Moved.trans W.gtrans ((hm.mono hsub).then_heap (Nat.le_add_right _ _) fun b o hb e => ?_) hm'') hS'' g'' hkp''
      rw [hsb.2 b (fun h : b = S => hb (by rw [h]; exact List.mem_cons_self))]; exact e
end
end SN
end Sec_S3
section Sec_S4
set_option maxRecDepth 100000
/-! Sets of many nested tuples, 4: sorted(set(xs)). -/
namespace SN
open PySem PySem.Spec PyProof.Rows L2
abbrev nset (w : World) : Obj := { cls := .type "set", dict := none, data := .set #[] 0 (.fresh 0 0 (!w.params.followText "set-order")) }
section
variable {P : Program} {w : World} {A : Around} {E : Value → Shared → Prop} {s : Shared}
set_option maxHeartbeats 3200000 in
theorem call_set_K {l : Addr} {items : Array Value} (ks : List Row) {Q : Value → Shared → Prop} (hh : A.handled = none) (hl : s.heap.IsList l items) (hit : items.toList = ks.map fun p => Value.ref p.1)
    (hk : ∀ p ∈ ks, IsK s.heap p.2 p.1) (hfew : Few ks) (hu : A.units + 12 < cLine)
    (h : ∀ (h' : Heap) (tk : Nat) L es ep t, Sr w (hashK w) h' s.heap.objs.size L es ep t → Has ks ks.length L → (∀ b o, s.heap.get? b = some o → h'.get? b = some o) → Q (.ref s.heap.objs.size) { s with heap := h', toks := tk }) :
    wpAny (model P w) A (call (.type "set") [.ref l]) Q E s := by
  have hisz : items.size = ks.length := by
    rw [← Array.length_toList, hit, List.length_map]
  obtain ⟨c, tl, hmro⟩ := F.called_set.mro
  have hmade := F.called_set.made
  have hsub := F.called_set.sub
  refine wpAny_call (codeAny_of_tree ?_)
  show wpAny _ _ (callAny (.type "set") _) _ _ _
  refine wpAny_pure ⟨Code.quiet_builtin _ (by decide +kernel), codeAny_builtin F.entry_type_call ?_⟩
  rw [Around.under_plain (weight_type_call_type "set" [.ref l] []) rfl]
  have h1 := F.called_set.notType
  have h2 := F.called_set.canCreate
  have hct := F.typeCall_set_1 (.ref l)
  repeat (any_goals (first | assumption | wp_step))
  refine codeAny_mono (code_set_led1 (.ref l) (E := E) (Q₁ := fun obj s₁ => obj = .ref s.heap.objs.size ∧ s₁ = { s with heap := s.heap.push (nset w) }) ⟨rfl, rfl⟩) fun r s₁ hr => ?_
  cases r with
  | error e => exact hr
  | ok fl =>
    cases fl with
    | ret obj =>
      obtain ⟨rfl, rfl⟩ := hr
      have hS : (s.heap.push (nset w)).get? s.heap.objs.size = some (nset w) := Heap.get?_push_size _ rfl
      have hT : Shared.TypeIs { s with heap := s.heap.push (nset w) } (.ref s.heap.objs.size) "set" := ⟨_, hS, rfl⟩
      have hli := F.called_set.init.lookup
      have hbi := F.called_set.init.bind (.ref s.heap.objs.size)
      repeat (any_goals (first | assumption | wp_step))
      refine codeAny_mono (codeAny_call_builtin (R := wants (fun r s₂ => r = .none ∧ ∃ h' tk L es ep t, s₂ = { s with heap := h', toks := tk } ∧ Sr w (hashK w) h' s.heap.objs.size L es ep t ∧ Has ks ks.length L ∧
          (∀ b o, s.heap.get? b = some o → h'.get? b = some o)) E) F.called_set.init.plain F.entry_set_init (check_set_init_1 hT ?_)) fun r₂ s₂ hr₂ => ?_
      · obtain ⟨⟨ocls, odict, odata, oslots⟩, hol, hcl, nl, hdl⟩ := hl
        simp only at hcl hdl
        subst hcl; subst hdl
        have hol' : (s.heap.push (nset w)).get? l = some { cls := .type "list", dict := odict, data := .seq items nl, slots := oslots } := Heap.get?_push_of_some _ hol
        have hsls := F.sub_list_set
        have hslf := F.sub_list_frozenset
        have hne : (Value.type "list" == Value.type "dict") = false := by decide
        have hl1 : (s.heap.push (nset w)).IsList l items := ⟨_, hol', rfl, nl, rfl⟩
        unfold Builtin.«set.__init__» noKeywords Builtin.Frozenset.updateFrom
        generalize hPI : pyIter = PI
        wp_walk
        subst hPI
        refine wpAny_pyIter_list hl1 ?_
        refine wpAny_bind (wpAny_runValue ?_)
        have hlS : l < s.heap.objs.size := Heap.lt_size hol
        have hh3 : A.in1.in1.in1.handled = none := by simp [hh]
        have hneI : l ≠ (s.heap.push (nset w)).objs.size := by
          rw [Heap.size_push]; exact Nat.ne_of_lt (Nat.lt_succ_of_lt hlS)
        have hSf : s.heap.objs.size ∉ [(s.heap.push (nset w)).objs.size, l] := by
          rw [Heap.size_push]; simp only [List.mem_cons, List.not_mem_nil, or_false, not_or]
          exact ⟨Nat.ne_of_lt (Nat.lt_succ_self _), Nat.ne_of_gt hlS⟩
        have hval : ∀ (i : Nat) (v : Value), items[i]? = some v → ∃ p, ks[i]? = some p ∧ v = .ref p.1 := fun i v hv => by
          rw [← Array.getElem?_toList, hit, List.getElem?_map] at hv
          obtain ⟨p, hp, e⟩ := Option.map_eq_some_iff.mp hv
          exact ⟨p, hp, e.symm⟩
        have past : ∀ b, s.heap.objs.size ≤ b → s.heap.get? b = none := fun b hb => by
          cases q : s.heap.get? b with
          | none => rfl
          | some o => exact absurd (Nat.lt_of_lt_of_le (Heap.lt_size q) hb) (Nat.lt_irrefl _)
        refine loop_K (P := P) (w := w) (κ := hashK w) rfl ((Walks.list hh3 _ l hneI items).toS) s.heap.objs.size hSf ks hisz hfew hval s.heap hk (past _ (Nat.le_refl _))
          (fun b hb => past b (by rw [List.mem_singleton.mp hb, Heap.size_push]; exact Nat.le_succ _)) (show A.units + 3 + 8 < cLine by omega) (items.size - 0) 0 _ (by omega) (Nat.zero_le _)
          ⟨⟨_, Heap.get?_push_size _ rfl, rfl, rfl⟩, (hl1.push _)⟩ (fun b o e => Heap.get?_push_of_some _ (Heap.get?_push_of_some _ e)) ?hS0 ?hR
        case hS0 =>
          exact ⟨[], #[], 0, _, sr_new (Heap.get?_push_of_some _ hS), ⟨fun p h => (by cases h), fun p h => (by simp at h)⟩⟩
        case hR =>
          intro s' L es ep t hm hS' g' hkp
          obtain ⟨h', g2, d', tk', os'⟩ := s'
          have eg : g2 = s.gens := hm.gens
          have ed : d' = s.drawn := hm.drawn
          have eo : os' = s.os := hm.os
          subst eg; subst ed; subst eo
          show wpAny _ _ _ _ _ _
          refine wpAny_pure ?_
          show wpAny _ _ (ret Value.none) _ _ _
          rw [hisz] at g'
          exact wpAny_pure ⟨rfl, h', tk', L, es, ep, t, rfl, hS', g', hkp⟩
      · cases r₂ with
        | error e => exact hr₂
        | ok fl₂ =>
          cases fl₂ with
          | ret r =>
            obtain ⟨rfl, h', tk, L, es, ep, t, rfl, hS', g', hk'⟩ := hr₂
            repeat (any_goals (first | assumption | wp_step))
            exact h _ _ _ _ _ _ hS' g' hk'
          | _ => exact hr₂.elim
    | _ => exact hr.elim

/-! ### sorted -/
def enc3 (k : K3) : PyData := .tuple [.int k.1, .tuple [.int k.2.1, .int k.2.2]]
def le3 (a b : K3) : Prop := a.1 < b.1 ∨ a.1 = b.1 ∧ (a.2.1 < b.2.1 ∨ a.2.1 = b.2.1 ∧ a.2.2 ≤ b.2.2)
theorem lt_enc3 (a b : K3) : PySem.W.dataLt (enc3 a) (enc3 b) = decide (a.1 < b.1 ∨ (a.1 = b.1 ∧ (a.2.1 < b.2.1 ∨ (a.2.1 = b.2.1 ∧ a.2.2 < b.2.2)))) := by
  have e1 : ∀ i j : Int, PyData.eqv (.int i) (.int j) = decide (i = j) := fun i j => by simp [PyData.eqv, Bool.beq_eq_decide_eq]
  have e2 : PyData.eqv (.tuple [.int a.2.1, .int a.2.2]) (.tuple [.int b.2.1, .int b.2.2]) = decide (a.2.1 = b.2.1 ∧ a.2.2 = b.2.2) := by
    by_cases h1 : a.2.1 = b.2.1 <;> by_cases h2 : a.2.2 = b.2.2 <;> simp [PyData.eqv, PyData.eqvAll, h1, h2]
  unfold enc3
  rw [PySem.W.dataLt_pair (by simp [PySem.W.alike]) (by simp [PySem.W.alike, PySem.W.alikeAll]), e1, e2, PySem.W.dataLt_int, PySem.W.dataLt_ii]
  by_cases h1 : a.1 = b.1
  · by_cases h2 : a.2.1 = b.2.1 ∧ a.2.2 = b.2.2
    · rw [if_pos (decide_eq_true h1), if_pos (decide_eq_true h2)]
      exact (decide_eq_false (by omega)).symm
    · rw [if_pos (decide_eq_true h1), if_neg (by simpa using h2)]
      refine decide_eq_decide.mpr ?_
      omega
  · rw [if_neg (by simpa using h1)]
    refine decide_eq_decide.mpr ?_
    omega
theorem le_enc3 (a b : K3) : PySem.W.dataLe false enc3 a b = true ↔ le3 a b := by
  rw [PySem.W.dataLe_eq]
  show (!PySem.W.dataLt (enc3 b) (enc3 a)) = true ↔ _
  rw [lt_enc3]
  unfold le3
  simp only [Bool.not_eq_true', decide_eq_false_iff_not]
  omega
theorem total3 : PySem.W.TotalLe (PySem.W.dataLe false enc3) where
  trans := fun a b c h1 h2 => by
    rw [le_enc3] at *
    unfold le3 at *
    omega
  total := fun a b => by
    rw [le_enc3, le_enc3]
    unfold le3
    omega
theorem alike3 (a b : K3) : PySem.W.alike (enc3 a) (enc3 b) = true := by
  simp [enc3, PySem.W.alike, PySem.W.alikeAll]
/-- the addresses of a set's rows -/
theorem rows_of (L : List Row) : ∀ vs : List Value, (∀ v ∈ vs, ∃ q ∈ L, v = Value.ref q.1) → ∃ L1 : List Row, vs = L1.map (fun q => Value.ref q.1) ∧ ∀ q ∈ L1, q ∈ L
  | [], _ => ⟨[], rfl, fun q hq => (by cases hq)⟩
  | v :: vs, hv => by
    obtain ⟨q, hq, e⟩ := hv v List.mem_cons_self
    obtain ⟨L1, e1, hs⟩ := rows_of L vs fun u hu => hv u (List.mem_cons_of_mem _ hu)
    refine ⟨q :: L1, by rw [List.map_cons, e, e1], fun r hr => ?_⟩
    rcases List.mem_cons.mp hr with z | z
    · rw [z]; exact hq
    · exact hs r z
theorem nd_of_map {α β : Type} {f : α → β} {l : List α} (h : (l.map f).Nodup) : l.Nodup := List.Pairwise.of_map f (fun _ _ hne e => hne (congrArg f e)) h
theorem each_rows {h : Heap} : ∀ (L : List Row), (∀ q ∈ L, Reads h (.ref q.1) (enc3 q.2) []) → PySem.W.EachIs (fun v b => ∃ as, Reads h v (enc3 b) as) (L.map fun q => Value.ref q.1) (L.map (·.2))
  | [], _ => .nil
  | q :: L, h => .cons ⟨[], h q List.mem_cons_self⟩ (each_rows L fun r hr => h r (List.mem_cons_of_mem _ hr))
end
end SN
end Sec_S4
section Sec_S5
set_option maxRecDepth 100000
/-! Sets of many nested tuples, 5: sorted of such a set; the rule. -/
namespace SN
open PySem PySem.Spec PyProof.Rows L2 DL
theorem reads3 {h : Heap} {v : Value} {k : K3} {as : List Addr} (r : Reads h v (enc3 k) as) : as = [] ∧ ∃ b, v = .ref b ∧ IsK h k b := by
  unfold enc3 at r
  cases r with
  | tuple h1 h2 h3 h4 =>
    cases hv : (_ : Array Value).toList with
    | nil => rw [hv] at h4; cases h4
    | cons a l =>
      rw [hv] at h4
      cases h4 with
      | cons a1 a2 =>
        cases a1
        cases a2 with
        | cons b1 b2 =>
          cases b2
          cases b1 with
          | tuple g1 g2 g3 g4 =>
            cases hw : (_ : Array Value).toList with
            | nil => rw [hw] at g4; cases g4
            | cons c m =>
              rw [hw] at g4
              cases g4 with
              | cons c1 c2 =>
                cases c1
                cases c2 with
                | cons d1 d2 =>
                  cases d1
                  cases d2
                  refine ⟨rfl, _, rfl, ?_⟩
                  exact .tup h1 h2 h3 (by rw [hv]; exact .cons (.int _ _) (.cons (.tup g1 g2 g3 (by rw [hw]; exact .cons (.int _ _) (.cons (.int _ _) .nil))) .nil))
section
variable {P : Program} {w : World} {A : Around} {E : Value → Shared → Prop} {s : Shared} {κ : K3 → Int}
theorem each_out {L1 : List Row} : ∀ {out : List Value} {ks : List K3}, PySem.W.EachIs (fun v k => ∃ q ∈ L1, v = Value.ref q.1 ∧ q.2 = k) out ks → ∃ L2 : List Row, out = L2.map (fun q => Value.ref q.1) ∧ L2.map (·.2) = ks ∧ ∀ q ∈ L2, q ∈ L1
  | _, _, .nil => ⟨[], rfl, rfl, fun q h => (by cases h)⟩
  | _, _, .cons ⟨q, hq, e1, e2⟩ t => by
    obtain ⟨L2, f1, f2, f3⟩ := each_out t
    refine ⟨q :: L2, by rw [List.map_cons, e1, f1], by rw [List.map_cons, e2, f2], fun r hr => ?_⟩
    rcases List.mem_cons.mp hr with z | z
    · rw [z]; exact hq
    · exact f3 r z
theorem each_same {L1 : List Row} : ∀ {L2 : List Row}, (∀ q ∈ L2, q ∈ L1) → PySem.W.EachIs (fun v k => ∃ q ∈ L1, v = Value.ref q.1 ∧ q.2 = k) (L2.map fun q => Value.ref q.1) (L2.map (·.2))
  | [], _ => .nil
  | q :: L2, h => .cons ⟨q, h q List.mem_cons_self, rfl, rfl⟩ (each_same fun r hr => h r (List.mem_cons_of_mem _ hr))
/-- rows of the same keys, each of them among L: the same rows -/
theorem perm_rows {L L1 : List Row} (nd : (L.map (·.2)).Nodup) (hs : ∀ q ∈ L1, q ∈ L) (pm : (L1.map (·.2)).Perm (L.map (·.2))) : L1.Perm L := by
  have n1 : L1.Nodup := nd_of_map (pm.nodup_iff.mpr nd)
  refine (List.perm_ext_iff_of_nodup n1 (nd_of_map nd)).mpr fun q => ⟨hs q, fun hq => ?_⟩
  obtain ⟨r, hr, e⟩ := List.mem_map.mp (pm.mem_iff.mpr (List.mem_map.mpr ⟨q, hq, rfl⟩))
  have hr' := hs r hr
  have : r = q := by
    obtain ⟨i, hi, ei⟩ := List.getElem_of_mem hr'
    obtain ⟨j, hj, ej⟩ := List.getElem_of_mem hq
    by_cases c : i = j
    · subst c; rw [← ei, ← ej]
    · exfalso
      have z := (List.pairwise_iff_getElem.mp (List.pairwise_map.mp nd))
      rcases Nat.lt_or_gt_of_ne c with c | c
      · exact z i j hi hj c (by rw [ei, ej, e])
      · exact z j i hj hi c (by rw [ei, ej, e])
  rw [← this]; exact hr
theorem sorted_K {a : Addr} {L : List Row} {es : Array (Int × Value)} {ep : Nat} {t : SetTable} {Q : Value → Shared → Prop} (R : Sr w κ s.heap a L es ep t) (hh : A.handled = none) (hL : L.length < 4095) (hrd : ∀ q ∈ L, Reads s.heap (.ref q.1) (enc3 q.2) []) (hu : A.units + 12 < cLine)
    (hQ : ∀ s' p (out : Array Value) (c : Nat) (L' : List Row), (∀ b o, s.heap.get? b = some o → s'.heap.get? b = some o) → s'.gens = s.gens → s'.os = s.os → s.heap.objs.size ≤ p →
      s'.heap.get? p = some (seqObj "list" out c) → out.toList = L'.map (fun q => Value.ref q.1) → L'.Perm L → L'.Pairwise (fun q r => le3 q.2 r.2) → Q (.ref p) s') :
    wpAny (model P w) A (call (.builtin "sorted") [.ref a]) Q E s := by
  obtain ⟨o, ho, hex, hd⟩ := R.ob
  have hsz := es_size R.rows
  refine Calls.call_function_entry kind_sorted plain_sorted entry_sorted (args_sorted1 _) ?_
  unfold Builtin.«sorted»
  refine wpAny_bind (m := checkCount "sorted" 1 1 _) (wpAny_pure ?_)
  refine wpAny_bind (collect_set (A := A.in1) hh ⟨o, ho, hex.1, hd⟩ R.fits (by unfold scanBound; omega) R.tab.ris R.led fun s1 vs k1 hz g1 o1 pm => ?_)
  have hes : es.toList.map (·.2) = L.map fun q => Value.ref q.1 := by
    rw [R.rows]
    unfold rws
    rw [List.map_map] <;> rfl
  rw [hes] at pm
  obtain ⟨L1, e1, s1L⟩ := rows_of L vs fun v hv => by
    obtain ⟨q, hq, e⟩ := List.mem_map.mp (pm.mem_iff.mp hv)
    exact ⟨q, hq, e.symm⟩
  subst e1
  have one : ∀ q ∈ L, ∀ r ∈ L, q.1 = r.1 → q = r := fun q hq r hr e => by
    have a1 := R.keys q hq
    have a2 := R.keys r hr
    rw [e] at a1
    exact Prod.ext e (nk_inj (NestedIs.inj _ _ _ a1 a2))
  have p1 : L1.Perm L := by
    have nL : L.Nodup := nd_of_map R.nd
    have nref : (L.map fun q => Value.ref q.1).Nodup := List.pairwise_map.mpr (List.Pairwise.imp_of_mem (fun {q r} hq hr hne e => by
      injection e with e
      exact hne (one q hq r hr e)) nL)
    have n1 : L1.Nodup := nd_of_map (pm.nodup_iff.mpr nref)
    refine (List.perm_ext_iff_of_nodup n1 nL).mpr fun q => ⟨s1L q, fun hq => ?_⟩
    obtain ⟨r, hr, e⟩ := List.mem_map.mp (pm.mem_iff.mpr (List.mem_map.mpr ⟨q, hq, rfl⟩))
    injection e with e
    rw [← one r (s1L r hr) q hq e]
    exact hr
  have hln : L1.length = L.length := p1.length_eq
  refine wpAny_bind (wpAny_newList ?_ (by rw [List.length_map, sizeLine_eq]; omega))
  have hoL : (s1.heap.push (seqObj "list" (L1.map fun q => Value.ref q.1).toArray 0)).get? s1.heap.objs.size = some (seqObj "list" (L1.map fun q => Value.ref q.1).toArray 0) := Heap.get?_push_size _ rfl
  have rd : ∀ q ∈ L1, Reads (s1.heap.push (seqObj "list" (L1.map fun q => Value.ref q.1).toArray 0)) (.ref q.1) (enc3 q.2) [] := fun q hq => PyProof.Rows.Reads.keeps (fun b u e => Heap.get?_push_of_some _ (k1 b u e)) (hrd q (s1L q hq))
  refine wpAny_bind (wpAny_holding (PySem.W.list_sort_data (s := { s1 with heap := s1.heap.push (seqObj "list" (L1.map fun q => Value.ref q.1).toArray 0) }) (enc := enc3) (bs := L1.map (·.2)) hoL (each_same fun q hq => hq)
    (by
      have go : ∀ l : List Row, (∀ q ∈ l, q ∈ L1) → PySem.W.EachIs (fun v b => ∃ as, Reads (s1.heap.push (seqObj "list" (L1.map fun q => Value.ref q.1).toArray 0)) v (enc3 b) as ∧ s1.heap.objs.size ∉ as) (l.map fun q => Value.ref q.1) (l.map (·.2)) := by
        intro l
        induction l with
        | nil => exact fun _ => .nil
        | cons q l ih => exact fun h => .cons ⟨[], rd q (h q List.mem_cons_self), by simp⟩ (ih fun r hr => h r (List.mem_cons_of_mem _ hr))
      exact go L1 fun q hq => hq)
    (PySem.W.AllAlike.of alike3) (PySem.W.Sortable.tuples fun b => ⟨_, _, rfl⟩) (by rw [List.length_map, sizeLine_eq]; omega) (fun b _ => by
      have : (enc3 b).depth ≤ 4 := by simp [enc3, PyData.depth, PyData.depthAll]
      show A.units + 1 + 1 + (enc3 b).depth < cLine
      omega) fun out _ eo => ?_))
  obtain ⟨c, hc⟩ := sortedHeap_at (vs := L1.map fun q => Value.ref q.1) (out := out.toArray) hoL
  obtain ⟨L', e', ek, hs'⟩ := each_out eo
  have pL : L'.Perm L := perm_rows R.nd (fun q hq => s1L q (hs' q hq)) (by rw [ek]; exact (List.mergeSort_perm _ _).trans (p1.map (·.2)))
  have pw : L'.Pairwise (fun q r => le3 q.2 r.2) := by
    have := PySem.W.sort_pairwise total3 (L1.map (·.2))
    rw [← ek, List.pairwise_map] at this
    exact this.imp fun h => (le_enc3 _ _).mp h
  refine wpAny_pure ⟨_, rfl, hQ _ s1.heap.objs.size out.toArray c L' (fun b u e => ?_) g1 o1 hz hc (by simpa using e') pL pw⟩
  have q := k1 b u e
  have hlt := Heap.lt_size q
  show (sortedHeap (s1.heap.push _) s1.heap.objs.size _ out.toArray).get? b = some u
  rw [sortedHeap_old (Nat.ne_of_lt hlt) (by rw [size_push']; exact Nat.lt_succ_of_lt hlt)]
  exact Heap.get?_push_of_some _ q
end

/-! ### the rule -/
section
variable {X : Cx} {G : DL.Fr0} {r r1 : Rho} {a : Expr}
def tSS (K : PySem.W.Frag) (ta : TE) : TE := fun σ H Q => ta σ H fun x H1 => ∃ (l : Addr) (vs : List V) (ks : List K3) (C : List K3), x = V.ref l ∧ SqL K H1 l vs ∧ DqAll K H1 vs (ks.map enc3) ∧ C.length < 4095 ∧ (∀ k ∈ ks, k ∈ C) ∧
  ∀ (p : Addr) (ws : List V) (out : List K3), out.Nodup → (∀ k, k ∈ out ↔ k ∈ ks) → out.Pairwise le3 → H1 p = none → ws.length ≤ sizeLine → (∀ Hm, DqAll K Hm vs (ks.map enc3) → DqAll K Hm ws (out.map enc3)) → Q (.ref p) (upd H1 p (.lst ws))
theorem vals_rows {H : Hp} {s : Shared} {pins : List (Addr × Obj)} {σ : L2.St} (I : Inv X pins σ H s) : ∀ (ks : List K3) (vs : List V) (us : List Value), DqAll X.K H vs (ks.map enc3) → Vals vs us →
    ∃ L : List Row, us = L.map (fun q => Value.ref q.1) ∧ vs = L.map (fun q => V.ref q.1) ∧ L.map (·.2) = ks ∧ (∀ q ∈ L, Reads s.heap (.ref q.1) (enc3 q.2) []) ∧ ∀ q ∈ L, Dq X.K H (.ref q.1) (enc3 q.2)
  | [], _, _, h, r => by
    cases h; cases r
    exact ⟨[], rfl, rfl, rfl, fun q h => (by cases h), fun q h => (by cases h)⟩
  | k :: ks, _, _, h, r => by
    cases h with
    | cons d1 d2 =>
      cases r with
      | cons r1 r2 =>
        obtain ⟨as, rd⟩ := Dq.reads I _ _ _ d1 r1
        obtain ⟨rfl, b, rfl, _⟩ := reads3 rd
        obtain ⟨L, e1, e2, e3, e4, e5⟩ := vals_rows I ks _ _ d2 r2
        have d1' := d1
        unfold enc3 at d1'
        cases d1' with
        | @tup p xs _ hs ha =>
          have ep : p = b := by cases r1; rfl
          subst ep
          refine ⟨(p, k) :: L, by rw [List.map_cons, e1], by rw [List.map_cons, e2], by rw [List.map_cons, e3], fun q hq => ?_, fun q hq => ?_⟩
          · rcases List.mem_cons.mp hq with z | z
            · rw [z]; exact rd
            · exact e4 q z
          · rcases List.mem_cons.mp hq with z | z
            · rw [z]; exact d1
            · exact e5 q z
theorem dp_rows {K : PySem.W.Frag} {H : Hp} : ∀ (L : List Row), (∀ q ∈ L, Dq K H (.ref q.1) (enc3 q.2)) → DqAll K H (L.map fun q => V.ref q.1) ((L.map (·.2)).map enc3)
  | [], _ => .nil
  | q :: L, h => .cons (h q List.mem_cons_self) (dp_rows L fun r hr => h r (List.mem_cons_of_mem _ hr))
theorem un_rows {K : PySem.W.Frag} {H : Hp} : ∀ (L : List Row), DqAll K H (L.map fun q => V.ref q.1) ((L.map (·.2)).map enc3) → ∀ q ∈ L, Dq K H (.ref q.1) (enc3 q.2)
  | [], _, q, h => by cases h
  | q :: L, d, r, hr => by
    cases d with
    | cons d1 d2 =>
      rcases List.mem_cons.mp hr with z | z
      · rw [z]; exact d1
      · exact un_rows L d2 r z
theorem vals_refs : ∀ (L : List Row), Vals (L.map fun p => V.ref p.1) (L.map fun p => Value.ref p.1)
  | [] => .nil
  | p :: ks => .cons rfl (vals_refs ks)
theorem pe_ss {ta : TE} {p p2 q pos : Pos} (hc : X.calm = true) (hu : X.A.units + 64 < cLine) (hg : Gl X "sorted") (hm : X.mg "sorted" = none) (hg2 : Gl X "set") (hm2 : X.mg "set" = none) (ha : PE X a ta)
    (na : starEach [a] X.env = (false, eval a X.env) :: starEach [] X.env := by rfl) : PE X (.Call (.Name "sorted" p) [.Call (.Name "set" p2) [a] [] q] [] pos) (tSS X.K ta) := by
  refine ⟨fun pins s σ H Q I h => ?_⟩
  refine Call_ (ld_blt I hg hm PyProof.Rows.boot_sorted ?_)
  refine PyProof.Rows.callWith_builtin1 (PyProof.Rows.args_cons ?_ rfl) rfl rfl
  refine Call_ (ld_blt I hg2 hm2 PyProof.Rows.boot_set ?_)
  refine PyProof.Rows.callWith_type1 (PyProof.Rows.args_cons (thn (ha.run pins s σ H _ I h) fun v s1 ⟨x, H1, I1, r1, q1⟩ => PyProof.Rows.args_nil ?_) na) na rfl
  obtain ⟨l, vs, ks, C, rfl, hq, hd, hC1, hC2, q1⟩ := q1
  cases r1
  obtain ⟨its, rv, pl, hz⟩ := I1.list hq
  obtain ⟨L0, e1, e2, e3, e4, e5⟩ := vals_rows I1 ks vs its hd rv
  have few : Few L0 := ⟨C, hC1, fun p hp => hC2 _ (e3 ▸ List.mem_map.mpr ⟨p, hp, rfl⟩)⟩
  refine call_set_K (P := X.prog) (w := X.w) L0 (I1.ok.hd hc) pl.isList (by simpa using e1) (fun p hp => (reads3 (e4 p hp)).2.elim fun b ⟨e, z⟩ => by cases e; exact z) few (by omega) fun h' tk L es ep t R g k => ?_
  refine PyProof.Rows.args_nil ?_
  have sub : ∀ p ∈ L, p ∈ L0 := fun p hp => List.mem_of_mem_take (g.sub p hp)
  have I2 : Inv X pins σ H1 { s1 with heap := h', toks := tk } := I1.kept k
  refine sorted_K (s := { s1 with heap := h', toks := tk }) R (I2.ok.hd hc) (few.len R.nd sub) (fun p hp => PyProof.Rows.Reads.keeps k (e4 p (sub p hp))) (by omega) fun s' p out c L' k2 g2 o2 hp hl ho pm pw => ?_
  have hlen : (L'.map fun q => V.ref q.1).length ≤ sizeLine := by
    rw [List.length_map, pm.length_eq, sizeLine_eq]
    have := few.len R.nd sub
    omega
  have hn : H1 p = none := I2.hok.fresh hp
  have J : Inv X pins σ (upd H1 p (.lst (L'.map fun q => V.ref q.1))) { ({ s1 with heap := h', toks := tk } : Shared) with heap := s'.heap, gens := s'.gens, drawn := s'.drawn, toks := s'.toks } :=
    I2.call (ch := []) (Un.laid k2 hp hn) (I2.hok.laid k2 hp ⟨hlen, out.toList, c, by rw [ho]; exact vals_refs L', hl⟩) (by rw [g2]; exact I2.bare) (fun _ z => nomatch z)
  have e : s' = { ({ s1 with heap := h', toks := tk } : Shared) with heap := s'.heap, gens := s'.gens, drawn := s'.drawn, toks := s'.toks } := by
    cases s'
    cases s1
    cases o2
    rfl
  rw [e]
  have sub' : ∀ q ∈ L', q ∈ L0 := fun q hq => sub q (pm.mem_iff.mp hq)
  refine ⟨.ref p, _, J, rfl, q1 p _ (L'.map (·.2)) ((pm.map (·.2)).nodup_iff.mpr R.nd) (fun x => ⟨fun hx => ?_, fun hx => ?_⟩) (List.pairwise_map.mpr pw) hn hlen fun Hm dm => dp_rows L' fun q hq => ?_⟩
  · obtain ⟨q, hq, rfl⟩ := List.mem_map.mp hx
    rw [← e3]
    exact List.mem_map.mpr ⟨q, sub' q hq, rfl⟩
  · rw [← e3] at hx
    obtain ⟨q, hq, rfl⟩ := List.mem_map.mp hx
    exact ((pm.map (·.2)).mem_iff).mpr (g.all q (by rw [List.take_length]; exact hq))
  · rw [e2, ← e3] at dm
    exact un_rows L0 dm q (sub' q hq)
/-- sorted(set(e)), e a list of (i, (p, q)): C covers the keys; target: the one ascending list of the same -/
theorem dSortSet {p p2 q pos : Pos} {ks target C : List K3} (hm : X.mg "sorted" = none) (hm2 : X.mg "set" = none) (hu : X.A.units + 64 < cLine) (h : DE X G r a (.list (ks.map enc3)) r1) (hC : C.length < 4095) (hC2 : ∀ k ∈ ks, k ∈ C)
    (ht : ∀ out : List K3, out.Nodup → (∀ k, k ∈ out ↔ k ∈ ks) → out.Pairwise le3 → out = target) (hc : X.calm = true := by rfl) (hg : Gl X "sorted" := by rfl) (hg2 : Gl X "set" := by rfl)
    (na : starEach [a] X.env = (false, eval a X.env) :: starEach [] X.env := by rfl) : DE X G r (.Call (.Name "sorted" p) [.Call (.Name "set" p2) [a] [] q] [] pos) (.list (target.map enc3)) r1 :=
  pe_imp (pe_ss hc hu hg hm hg2 hm2 h na) fun σ H Q ⟨M, o, k⟩ => ⟨M, o, fun v H1 o1 s1 dx => by
    cases dx with
    | @lst l vs _ hs ha =>
      refine ⟨l, vs, ks, C, rfl, Same.seq msk_le hs, dpa_mono msk_le _ _ ha, hC, hC2, fun p ws out n1 n2 n3 hp hl hw => ?_⟩
      have et := ht out n1 n2 n3
      subst et
      have ms := msk_grow (M := M) (same_new (o := .lst ws) hp)
      exact k _ _ (o1.laid hp) (Same.trans s1 ms) (.lst (SqL.of (msk_new o1 hp)) (dpa_mono ms _ _ (hw _ ha)))⟩
end
end SN
end Sec_S5
section Sec_D7
set_option maxRecDepth 100000
/-! The data layer 7: list + list, list * int, sorted(list), enumerate(tuple), zip, index, [::-1], min of a pair, dicts. -/
namespace DL
open PySem PySem.Spec PyProof.Rows L2
section
variable {X : Cx} {G : Fr0} {r r1 r2 : Rho} {a b e : Expr} {es : List Expr} {pos : Pos} {x y : PyData} {xs ys : List PyData} {i : Int}
/-! ### list + list -/
theorem op_catS : OpR X (binaryOp .Add) (rCatS X.K) := by
  intro pins s σ H x y v u Q I rx ry h
  obtain ⟨l, b, xs, zs, rfl, rfl, hl, hb, hz, q⟩ := h
  cases rx
  cases ry
  obtain ⟨its, r1, p1, z1⟩ := I.list hl
  obtain ⟨its2, r2, p2, z2⟩ := I.list hb
  obtain ⟨⟨cls, dd, data, sl⟩, ho, hc, n, hd⟩ := p1.isList
  obtain ⟨⟨cls2, dd2, data2, sl2⟩, ho2, hc2, n2, hd2⟩ := p2.isList
  simp only at hc hd hc2 hd2
  subst hc hd hc2 hd2
  have e : its.toArray ++ its2.toArray = (its ++ its2).toArray := by simp
  have hs : its.toArray.size + its2.toArray.size ≤ sizeLine := by
    rw [List.size_toArray, List.size_toArray, ← r1.length, ← r2.length]; exact hz
  refine concat_meets ⟨_, ho, rfl⟩ ⟨_, ho2, rfl⟩ noFill_list_add seq_list_add PySem.F.slot_list_add PySem.F.entry_list_add (PySem.F.args_list_add_2 _ _) (list_addW l b its.toArray its2.toArray n n2 dd dd2 sl sl2 hs) ⟨ho, ho2, ?_⟩
  rw [e]
  exact ⟨.ref _, _, I.lnew (t' := s.toks) (r1.append r2) (by rw [List.length_append]; exact hz), rfl, q _ I.fresh⟩
theorem dCatL (hz : xs.length + ys.length ≤ sizeLine) (ha : DE X G r a (.list xs) r1) (hb : DE X G r1 b (.list ys) r2) : DE X G r (.BinOp a .Add b pos) (.list (xs ++ ys)) r2 :=
  pe_imp (pe_op op_catS ha hb) fun σ H Q ⟨M, o, q⟩ => ⟨M, o, fun v H1 o1 s1 dx => ⟨M, o1, fun u H2 o2 s2 dy => by
    have dx := dp_mono s2 _ _ dx
    have s := Same.trans s1 s2
    cases dx with
    | @lst p vs _ hs ha =>
      cases dy with
      | @lst p' ws _ hs' hb =>
        exact ⟨p, p', vs, ws, rfl, rfl, Same.seq msk_le hs, Same.seq msk_le hs', by rw [dpa_length ha, dpa_length hb]; exact hz, fun q' hp =>
          q _ _ (o2.laid hp) (Same.trans s (msk_grow (same_new hp))) (.lst (SqL.of (msk_new o2 hp)) (dpa_mono (msk_grow (same_new hp)) _ _ (dpa_append ha hb)))⟩⟩⟩
/-- [..] * int -/
theorem dpa_rep {K : PySem.W.Frag} {H : Hp} {vs : List V} {ds : List PyData} (h : DqAll K H vs ds) : ∀ n, DqAll K H (List.replicate n vs).flatten (List.replicate n ds).flatten
  | 0 => .nil
  | n + 1 => by
    rw [List.replicate_succ, List.replicate_succ, List.flatten_cons, List.flatten_cons]
    exact dpa_append h (dpa_rep h n)
theorem dRepL {lp : Pos} (hl : xs.length ≤ sizeLine) (hi : 0 ≤ i ∧ i < 2 ^ 63) (hz : xs.length * i.toNat ≤ sizeLine) (h : DA X G r es xs r1) (hb : DE X G r1 b (.int i) r2) : DE X G r (.BinOp (.List es lp) .Mult b pos) (.list (List.replicate i.toNat xs).flatten) r2 :=
  pe_imp (pe_op op_rep (pe_lst h) hb) fun σ H Q ⟨M, o, q⟩ => ⟨M, o, fun vs H1 o1 s1 dx => ⟨by rw [dpa_length dx]; exact hl, fun p hp => by
    have s' := msk_grow (M := M) (same_new (o := .lst vs) hp)
    refine ⟨M, o1.laid hp, fun u H2 o2 s2 dy => ?_⟩
    cases dy
    have hp2 : msk M H2 p = some (.lst vs) := s2 _ _ (msk_new o1 hp)
    have dx2 := dpa_mono (Same.trans s' s2) _ _ dx
    refine ⟨p, i, vs, rfl, rfl, (msk_some hp2).2, by omega, hi.2, by rw [dpa_length dx]; exact hz, fun p' hp' => ?_⟩
    exact q _ _ (o2.laid hp') (Same.trans s1 (Same.trans s' (Same.trans s2 (msk_grow (same_new hp'))))) (.lst (SqL.of (msk_new o2 hp')) (dpa_mono (msk_grow (same_new hp')) _ _ (dpa_rep dx2 _)))⟩⟩
/-! ### sorted(list) -/
def rSrt {β : Type} (K : PySem.W.Frag) (enc : β → PyData) (bs : List β) : List V → Hp → VK → Prop := fun vs H Q => ∃ (l : Addr) (xs : List V), vs = [V.ref l] ∧ SqL K H l xs ∧ DqAll K H xs (bs.map enc) ∧
  ∀ (p : Addr) (ws : List V), ws.length ≤ sizeLine → (∀ Hm, DqAll K Hm xs (bs.map enc) → DqAll K Hm ws ((bs.mergeSort (PySem.W.dataLe false enc)).map enc)) → H p = none → Q (.ref p) (upd H p (.lst ws))
theorem zip_in {K : PySem.W.Frag} {Hm : Hp} {β : Type} {enc : β → PyData} : ∀ {bs : List β} {xs : List V}, DqAll K Hm xs (bs.map enc) → ∀ q ∈ xs.zip bs, Dq K Hm q.1 (enc q.2)
  | [], _, _, q, hq => by simp at hq
  | b :: bs, _, h, q, hq => by
    cases h with
    | cons h1 h2 =>
      rcases List.mem_cons.mp hq with e | hq
      · rw [e]; exact h1
      · exact zip_in h2 q hq
theorem each_zip {β : Type} : ∀ {xs : List V} {bs : List β} {us : List Value}, Vals xs us → xs.length = bs.length → PySem.W.EachIs (fun u b => ∃ v, RelV v u ∧ (v, b) ∈ xs.zip bs) us bs
  | [], [], _, h, _ => by cases h; exact .nil
  | x :: xs, b :: bs, _, h, hl => by
    cases h with
    | cons r t => exact .cons ⟨x, r, List.mem_cons_self⟩ ((each_zip t (by simpa using hl)).mono fun u b ⟨v, h1, h2⟩ => ⟨v, h1, List.mem_cons_of_mem _ h2⟩)
  | [], _ :: _, _, _, hl => by simp at hl
  | _ :: _, [], _, _, hl => by simp at hl
theorem each_back {β : Type} {Z : List (V × β)} : ∀ {us : List Value} {bs : List β}, PySem.W.EachIs (fun u b => ∃ v, RelV v u ∧ (v, b) ∈ Z) us bs → ∃ ws : List V, Vals ws us ∧ ws.length = bs.length ∧ ∀ q ∈ ws.zip bs, q ∈ Z
  | _, _, .nil => ⟨[], .nil, rfl, fun q h => (by simp at h)⟩
  | _, _, .cons ⟨v, h1, h2⟩ t => by
    obtain ⟨ws, f1, f2, f3⟩ := each_back t
    refine ⟨v :: ws, .cons h1 f1, by simp [f2], fun q hq => ?_⟩
    rcases List.mem_cons.mp hq with e | hq
    · rw [e]; exact h2
    · exact f3 q hq
theorem zip_out {K : PySem.W.Frag} {Hm : Hp} {β : Type} {enc : β → PyData} : ∀ {bs : List β} {xs : List V}, xs.length = bs.length → (∀ q ∈ xs.zip bs, Dq K Hm q.1 (enc q.2)) → DqAll K Hm xs (bs.map enc)
  | [], [], _, _ => .nil
  | b :: bs, x :: xs, hl, h => .cons (h (x, b) List.mem_cons_self) (zip_out (by simpa using hl) fun q hq => h q (List.mem_cons_of_mem _ hq))
  | [], _ :: _, hl, _ => by simp at hl
  | _ :: _, [], hl, _ => by simp at hl
theorem cr_srt {β : Type} {enc : β → PyData} {bs : List β} (hal : ∀ b b', PySem.W.alike (enc b) (enc b') = true) (hk : PySem.W.Sortable (bs.map enc)) (hd : ∀ b, (enc b).depth ≤ 16) (hu : X.A.units + 64 < cLine) : CallR X (.builtin "sorted") (rSrt X.K enc bs) := by
  intro pins s σ H vs us Q I r h
  obtain ⟨l, xs, rfl, hs, hx, q⟩ := h
  obtain ⟨its, rv, hl, hz⟩ := I.list hs
  rw [Vals.ref1 r]
  have hlen : xs.length = bs.length := by rw [dpa_length hx, List.length_map]
  obtain ⟨as, hr⟩ := Dq.readsAll I _ _ _ hx rv
  refine PySem.W.sorted_data (enc := enc) (bs := bs) hl.isList (each_zip rv hlen) (PySem.W.readsAll_each enc hr) (PySem.W.AllAlike.of hal) hk (by omega) (fun b _ => by have := hd b; omega) fun out ho eo => ?_
  obtain ⟨ep, he'⟩ := PyProof.Rows.sortedAll_at s.heap its out.toArray
  obtain ⟨ws, f1, f2, f3⟩ := each_back eo
  have hwl : ws.length ≤ sizeLine := by rw [f2, List.length_mergeSort]; omega
  exact ⟨.ref _, upd H (s.heap.objs.size + 1) (.lst ws), I.laid (t' := s.toks) (fun _ _ => PyProof.Rows.sortedAll_old) (Nat.le_succ _) ⟨hwl, out, ep, f1, he'⟩, rfl, q _ ws hwl (fun Hm dm => zip_out f2 fun q hq => zip_in dm q (f3 q hq)) (I.hok.fresh (Nat.le_succ _))⟩
theorem dSort {β : Type} {enc : β → PyData} {bs : List β} {p : Pos} (hm : X.mg "sorted" = none) (hu : X.A.units + 64 < cLine) (hal : ∀ b b', PySem.W.alike (enc b) (enc b') = true) (hk : PySem.W.Sortable (bs.map enc)) (hd : ∀ b, (enc b).depth ≤ 16) (h : DE X G r e (.list (bs.map enc)) r1)
    (hg : Gl X "sorted" := by rfl) (he : starEach [e] X.env = (false, eval e X.env) :: starEach [] X.env := by rfl) (hpl : (backTo pos (starEach [] X.env)).any (·.1) = false := by rfl) :
    DE X G r (.Call (.Name "sorted" p) [e] [] pos) (.list ((bs.mergeSort (PySem.W.dataLe false enc)).map enc)) r1 :=
  pe_imp (pe_callB (cr_srt (bs := bs) hal hk hd hu) hg hm PyProof.Rows.boot_sorted (aOne h he) (by decide) (by decide) he hpl) fun σ H Q ⟨M, o, q⟩ => ⟨M, o, fun vs H1 o1 s1 dx => by
    obtain ⟨v, rfl, dv⟩ := dpa1 dx
    cases dv with
    | @lst l xs _ hs ha =>
      exact ⟨l, xs, rfl, Same.seq msk_le hs, dpa_mono msk_le _ _ ha, fun p ws hw hd hp => q _ _ (o1.laid hp) (Same.trans s1 (msk_grow (same_new hp))) (.lst (SqL.of (msk_new o1 hp)) (dpa_mono (msk_grow (same_new hp)) _ _ (hd _ ha)))⟩⟩
end
end DL
end Sec_D7
section Sec_D8
set_option maxRecDepth 100000
/-! The data layer 8: index, [::-1], min of a pair, enumerate, zip, dicts. -/
namespace DL
open PySem PySem.Spec PyProof.Rows L2
section
variable {X : Cx} {G : Fr0} {r r1 r2 : Rho} {a b e : Expr} {es : List Expr} {pos : Pos} {x y : PyData} {xs ys : List PyData} {i j : Int}
/-! ### the object of a plain tuple -/
theorem sqx_obj {pins : List (Addr × Obj)} {σ : L2.St} {H : Hp} {s : Shared} {p : Addr} {vs : List V} (I : Inv X pins σ H s) (h : SqX X.K H p vs) : ∃ (o : Obj) (its : List Value) (n : Nat), s.heap.get? p = some o ∧ o.cls = .type "tuple" ∧ o.dict = none ∧ o.data = .seq its.toArray n ∧ Vals vs its := by
  obtain ⟨its, rv, ⟨o, ho, hc, n, hd⟩, _⟩ := I.tuple h.t
  rcases h with ⟨o', h1, h2, h3⟩ | ⟨o', its', n', h1, h2, h3, h4, _⟩
  · have e : s.heap.get? p = some o' := (I.hok p _ h3).1
    rw [ho] at e
    cases e
    exact ⟨o, its, n, ho, hc, h1, hd, rv⟩
  · have e := I.kIn p o' h1
    rw [ho] at e
    cases e
    exact ⟨o, its, n, ho, hc, h3, hd, rv⟩
/-! ### t.index(x) -/
def tTI (K : PySem.W.Frag) (to : TE) (t : TA) : TE := fun σ H Q => to σ H fun x H1 => ∃ a vs, x = V.ref a ∧ SqX K H1 a vs ∧ t σ H1 fun xs H2 => ∃ (y : V) (d : PyData) (ds : List PyData) (j : Nat) (z : PyData), xs = [y] ∧ Dp K H2 (V.ref a) (.tuple ds) ∧ Dp K H2 y d ∧
  SeqAt.shaped (.list ds) = true ∧ SeqAt.shaped d = true ∧ ds[j]? = some z ∧ PyData.eqv z d = true ∧ (∀ (m : Nat) (z' : PyData), m < j → ds[m]? = some z' → PyData.eqv z' d = false) ∧ Q (.int (j : Nat)) H2
theorem pe_ti {o : Expr} {to : TE} {t : TA} {apos cpos : Pos} (hu : X.A.units + 65 < cLine) (ho : PE X o to) (ha : PA X [e] t) (hbase : attributeBase o "index" X.env (eval o X.env) = eval o X.env := by rfl)
    (hfew : ((backTo cpos (starEach [e] X.env)).all (fun x => !x.1) && (backToKw cpos (keywordEach [] X.env)).all (fun x => x.1.isSome) && decide ([e].length + ([] : List Keyword).length + (if ([] : List Keyword).isEmpty then 0 else 1) < 30)) = true := by rfl)
    (hline : (apos.endLine == cpos.line) = true := by rfl) (hs : starEach [e] X.env = (false, eval e X.env) :: starEach [] X.env := by rfl) (hplain : (backTo cpos (starEach [] X.env)).any (·.1) = false := by rfl) :
    PE X (.Call (.Attribute o "index" apos) [e] [] cpos) (tTI X.K to t) := by
  refine ⟨fun pins s σ H Q I h => ?_⟩
  refine wpAny_Call_method_late hbase hfew hline rfl (thn (ho.run pins s σ H _ I h) fun v s1 ⟨x, H1, I1, r1, a, vs, ex, hx, q1⟩ => ?_)
  subst ex
  cases r1
  obtain ⟨ob, its0, n0, ho1, hc1, hd1, _, _⟩ := sqx_obj I1 hx
  refine ⟨"tuple", "tuple.index", PySem.F.plainAttrs_tuple, PySem.F.slot_tuple_index, PySem.F.type_tuple_index, ⟨ob, ho1, hc1⟩, fun a e => by cases e; exact ⟨ob, ho1, hd1⟩, ?_⟩
  have hA := ha.run cpos pins s1 σ H1 _ I1 q1
  rw [hs] at hA ⊢
  refine Calls.callWith_builtin (by show (false || (backTo cpos (starEach [] X.env)).any (·.1)) = false; rw [hplain] <;> rfl) (Calls.evalArgs_plain ?_)
  refine thn hA fun us s2 ⟨ys, H2, I2, r2, q2⟩ => ?_
  obtain ⟨y, d, ds, j, z, rfl, hl, hy, sl, sd, hz, hzj, hno, q⟩ := q2
  obtain ⟨uy, rfl, ry⟩ := vals1 r2
  · obtain ⟨bs, rd1⟩ := Dp.reads I2 d y uy hy ry
    have hxs : PyData.canLayAll0 ds = true := SeqAt.canLay_of_shaped sl
    have hroom : X.A.units + 1 + min (PyData.depthAll ds) d.depth < cLine := room_in_shaped sd hu
    cases hl with
    | tup hs' ha' =>
      obtain ⟨its, rv, ⟨⟨cls, dd, data, sls⟩, ho, hc, n, hdt⟩, hlen⟩ := I2.tuple hs'
      simp only at hc hdt
      subst hc hdt
      obtain ⟨as, h4⟩ := Dp.readsAll I2 ds _ its ha' rv
      have hn : its.length = ds.length := SeqAt.ReadsAll.length ds its as h4
      have hmap : its.map (SeqAt.readOf s2.heap) = ds := SeqAt.readsAll_map ds its as hxs h4
      have hj : j < its.toArray.size := by
        have := (List.getElem?_eq_some_iff.mp hz).1
        rw [List.size_toArray]; omega
      have at_ : ∀ (m : Nat) (hm : m < its.toArray.size) (z' : PyData), ds[m]? = some z' → SeqAt.readOf s2.heap its.toArray[m] = z' := by
        intro m hm z' hz'
        have hml : m < its.length := by simpa using hm
        rw [← hmap, List.getElem?_map, List.getElem?_eq_getElem hml] at hz'
        have e1 : SeqAt.readOf s2.heap its[m] = z' := Option.some.inj hz'
        simpa using e1
      refine call_meets PySem.F.slot_tuple_index ⟨_, ho, rfl⟩ PySem.F.entry_tuple_index (PySem.F.args_tuple_index_2 _ _)
        (TI.tuple_indexAt a its.toArray n dd sls uy (fun u => PyData.eqv (SeqAt.readOf s2.heap u) d) j hj ?_ ?_) ⟨ho, SeqAt.items_eqAt (vs := its.toArray) (show ReadsAll s2.heap its.toArray.toList ds as from h4) rd1 hxs (SeqAt.canLay_of_shaped sd) hroom, ?_⟩
      · show PyData.eqv (SeqAt.readOf s2.heap its.toArray[j]) d = true
        rw [at_ j hj z hz]
        exact hzj
      · intro m hm hmj
        have hmd : m < ds.length := by
          have := (List.getElem?_eq_some_iff.mp hz).1
          omega
        have hz' : ds[m]? = some ds[m] := List.getElem?_eq_getElem hmd
        show PyData.eqv (SeqAt.readOf s2.heap its.toArray[m]) d = false
        rw [at_ m hm _ hz']
        exact hno m _ hmj hz'
      · exact ⟨.int (j : Nat), H2, I2.tok _, ⟨_, rfl⟩, q⟩
theorem dIndexT {o : Expr} {apos cpos : Pos} {ds : List PyData} {j : Nat} {z : PyData} (hu : X.A.units + 65 < cLine) (sl : SeqAt.shaped (.list ds) = true) (sd : SeqAt.shaped x = true) (hz : ds[j]? = some z) (hzj : PyData.eqv z x = true)
    (hno : ∀ (m : Nat) (z' : PyData), m < j → ds[m]? = some z' → PyData.eqv z' x = false) (h : DE X G r o (.tuple ds) r1) (h2 : DE X G r1 e x r2) (hbase : attributeBase o "index" X.env (eval o X.env) = eval o X.env := by rfl)
    (hfew : ((backTo cpos (starEach [e] X.env)).all (fun x => !x.1) && (backToKw cpos (keywordEach [] X.env)).all (fun x => x.1.isSome) && decide ([e].length + ([] : List Keyword).length + (if ([] : List Keyword).isEmpty then 0 else 1) < 30)) = true := by rfl)
    (hline : (apos.endLine == cpos.line) = true := by rfl) (hs : starEach [e] X.env = (false, eval e X.env) :: starEach [] X.env := by rfl) (hplain : (backTo cpos (starEach [] X.env)).any (·.1) = false := by rfl) :
    DE X G r (.Call (.Attribute o "index" apos) [e] [] cpos) (.int (j : Nat)) r2 :=
  pe_imp (pe_ti hu h (aOne h2 hs) hbase hfew hline hs hplain) fun σ H Q ⟨M, o, q⟩ => ⟨M, o, fun v H1 o1 s1 dx => by
    have dx' := dx
    cases dx with
    | @tup p vs _ hx ha =>
      refine ⟨p, vs, rfl, hx.mono msk_le, M, o1, fun us H2 o2 s2 dy => ?_⟩
      obtain ⟨u, rfl, du⟩ := dpa1 dy
      exact ⟨u, x, ds, j, z, rfl, (dp_mono msk_le _ _ (dp_mono s2 _ _ dx')).w, (dp_mono msk_le _ _ du).w, sl, sd, hz, hzj, hno, q _ H2 o2 (Same.trans s1 s2) (.int _)⟩⟩
theorem dIndexL {o : Expr} {apos cpos : Pos} {ds : List PyData} {j : Nat} {z : PyData} (hu : X.A.units + 65 < cLine) (sl : SeqAt.shaped (.list ds) = true) (sd : SeqAt.shaped x = true) (hz : ds[j]? = some z) (hzj : PyData.eqv z x = true)
    (hno : ∀ (m : Nat) (z' : PyData), m < j → ds[m]? = some z' → PyData.eqv z' x = false) (h : DE X G r o (.list ds) r1) (h2 : DE X G r1 e x r2) (hbase : attributeBase o "index" X.env (eval o X.env) = eval o X.env := by rfl)
    (hfew : ((backTo cpos (starEach [e] X.env)).all (fun x => !x.1) && (backToKw cpos (keywordEach [] X.env)).all (fun x => x.1.isSome) && decide ([e].length + ([] : List Keyword).length + (if ([] : List Keyword).isEmpty then 0 else 1) < 30)) = true := by rfl)
    (hline : (apos.endLine == cpos.line) = true := by rfl) (hs : starEach [e] X.env = (false, eval e X.env) :: starEach [] X.env := by rfl) (hplain : (backTo cpos (starEach [] X.env)).any (·.1) = false := by rfl) :
    DE X G r (.Call (.Attribute o "index" apos) [e] [] cpos) (.int (j : Nat)) r2 :=
  pe_imp (pe_bm PySem.F.plainAttrs_list PySem.F.slot_list_index PySem.F.type_list_index (mt_indexD hu) h (aOne h2 hs) hbase hfew hline hs hplain) fun σ H Q ⟨M, o, q⟩ => ⟨M, o, fun v H1 o1 s1 dx => by
    have dx' := dx
    cases dx with
    | @lst p vs _ hx ha =>
      refine ⟨.inl ⟨rfl, vs, Same.seq msk_le hx⟩, M, o1, fun us H2 o2 s2 dy => ?_⟩
      obtain ⟨u, rfl, du⟩ := dpa1 dy
      exact ⟨p, u, x, ds, j, z, rfl, rfl, (dp_mono msk_le _ _ (dp_mono s2 _ _ dx')).w, (dp_mono msk_le _ _ du).w, sl, sd, hz, hzj, hno, q _ H2 o2 (Same.trans s1 s2) (.int _)⟩⟩

/-! ### t[::-1] -/
theorem places_back (n : Nat) : Builtin.Slice.slicePlaces ((n : Int) - 1) (-1) (-1) = n := by
  unfold Builtin.Slice.slicePlaces
  have h1 : ¬ ((-1 : Int) > 0) := by decide
  simp only [h1, if_false]
  by_cases h : n = 0
  · subst h; rfl
  · have h2 : (-1 : Int) < (n : Int) - 1 := by omega
    simp [h2]
theorem pick_back (xs : Array Value) : ((List.range xs.size).filterMap fun (k : Nat) => xs[(((xs.size : Int) - 1) + (k : Int) * (-1)).toNat]?).toArray = xs.toList.reverse.toArray := by
  congr 1
  refine List.ext_getElem? fun i => ?_
  have e : ∀ l : List Nat, (∀ k ∈ l, k < xs.size) → l.filterMap (fun (k : Nat) => xs[(((xs.size : Int) - 1) + (k : Int) * (-1)).toNat]?) = l.map fun k => xs.toList.reverse.getD k .none := by
    intro l
    induction l with
    | nil => exact fun _ => rfl
    | cons k l ih =>
      intro h
      have hk := h k List.mem_cons_self
      have hlt : (((xs.size : Int) - 1) + (k : Int) * (-1)).toNat < xs.size := by omega
      have e1 : (((xs.size : Int) - 1) + (k : Int) * (-1)).toNat = xs.size - 1 - k := by omega
      have e2 : xs[(((xs.size : Int) - 1) + (k : Int) * (-1)).toNat]? = some (xs.toList.reverse.getD k .none) := by
        rw [e1, Array.getElem?_eq_getElem (by omega)]
        simp [List.getD_eq_getElem?_getD, List.getElem?_reverse, hk]
      simp only [List.filterMap_cons, e2]
      rw [List.map_cons, ih fun k hk => h k (List.mem_cons_of_mem _ hk)]
  rw [e _ fun k hk => List.mem_range.mp hk]
  by_cases hi : i < xs.size
  · simp [hi, List.getD_eq_getElem?_getD]
  · simp [hi]
theorem getItem_tuple_back {prog : Program} {w : World} {A : Around} {E : Value → Shared → Prop} {s : Shared} {t sl : Addr} {items : Array Value} {vl vu vs : Value} {Q : Value → Shared → Prop} (ht : IsTup s.heap t items) (hs : s.heap.IsSliceOf sl vl vu vs) (pl : IsPart vl none) (pu : IsPart vu none) (ps : IsPart vs (some (-1)))
    (h : Q (.ref s.heap.objs.size) { s with heap := s.heap.push { cls := .type "tuple", data := .seq items.toList.reverse.toArray } }) (hsz : items.size ≤ sizeLine) : wpAny (model prog w) A (getItem (.ref t) (.ref sl)) Q E s := by
  have htake : sizeOk (.seq items.toList.reverse.toArray) := by
    show items.toList.reverse.toArray.size ≤ sizeLine
    simpa using hsz
  obtain ⟨os, hos, hcs, hds⟩ := id hs
  have hTs : s.TypeIs (.ref sl) "slice" := ⟨os, hos, hcs⟩
  unfold getItem
  try with_reducible refine wpAny_holding ?_
  first | refine wpAny_bind (wpAny_pure ?_) | skip
  refine wpAny_bind (wpAny_sequenceKey ht.typeIs (by decide) ?_)
  refine wpAny_bind (wpAny_callSpecial?_slot (name := Str.ofString "__getitem__") ht.typeIs PyProof.Rows.slot_tuple_getitem
    (wpAny_call_entry PyProof.Rows.slot_tuple_getitem ht.typeIs entry_tuple_getitem ?_ (args_tuple_getitem _ _)))
  show wpAny _ _ (Builtin.Tuple.tupleItemsOf (.ref t) >>= _) _ _ s
  refine wpAny_bind (tupleItemsOf_ ht ?_)
  refine wpAny_bind (wpAny_typeOf hTs ?_)
  rw [if_pos (by decide)]
  refine wpAny_bind (?_ : wpAny _ _ (Builtin.Slice.sliceApplied (.ref sl) (pure (items.size : Int))) _ _ s)
  unfold Builtin.Slice.sliceApplied Builtin.Slice.sliceFields
  refine wpAny_bind (wpAny_bind (wpAny_field hos hds (x := vl) rfl (wpAny_bind (wpAny_field hos hds (x := vu) rfl (wpAny_bind (wpAny_field hos hds (x := vs) rfl (wpAny_pure ?_)))))))
  refine wpAny_bind (HT.slicePart_ ps ?_)
  show wpAny _ _ (if ((-1 : Int) == 0) = true then _ else _) _ _ s
  rw [if_neg (by decide)]
  refine wpAny_bind (HT.slicePart_ pl (wpAny_bind (HT.slicePart_ pu (wpAny_bind (wpAny_pure ?_)))))
  have adj : Builtin.Slice.sliceAdjust none none (-1) (items.size : Int) = ((items.size : Int) - 1, -1) := by
    unfold Builtin.Slice.sliceAdjust
    simp
  show wpAny _ _ (match Builtin.Slice.sliceAdjust none none (-1) (items.size : Int) with | (lo, hi) => pure (lo, (-1 : Int), Builtin.Slice.slicePlaces lo hi (-1))) _ _ s
  rw [adj]
  show wpAny _ _ (pure ((items.size : Int) - 1, (-1 : Int), Builtin.Slice.slicePlaces ((items.size : Int) - 1) (-1) (-1))) _ _ s
  rw [places_back]
  refine wpAny_pure ?_
  show wpAny _ _ (if ((((items.size : Int) - 1) == 0) && ((-1 : Int) == 1) && (items.size == items.size)) = true then _ else _) _ _ s
  rw [if_neg (by simp), pick_back]
  first
    | exact wpAny_bind (m := Builtin.Tuple.tupleExact _) (wpAny_newObj_type (wpAny_pure ⟨_, rfl, wpAny_pure h⟩) htake)
    | exact wpAny_bind (m := Builtin.Tuple.tupleExact _) (wpAny_newObj_type (wpAny_bind (wpAny_pure (wpAny_pure ⟨_, rfl, wpAny_pure h⟩))) htake)
    | exact wpAny_bind (wpAny_bind (m := Builtin.Tuple.tupleExact _) (wpAny_newObj_type (wpAny_pure (wpAny_pure ⟨_, rfl, wpAny_pure h⟩)) htake))
    | exact wpAny_bind (wpAny_bind (m := Builtin.Tuple.tupleExact _) (wpAny_newObj_type (wpAny_pure ⟨_, rfl, wpAny_pure h⟩) htake))
def tRevX (K : PySem.W.Frag) (te : TE) : TE := fun σ H Q => te σ H fun x H1 => ∃ a xs, x = .ref a ∧ SqT K H1 a xs ∧ ∀ p o, H1 p = none → PlainO o → Q (.ref p) (upd H1 p (.frz o (.tup xs.reverse)))
theorem pe_revX {te : TE} {k : Nat} {p1 p2 p3 : Pos} (he : PE X e te) : PE X (.Subscript e (.Slice none none (some (.UnaryOp .USub (.Constant (.int 1) k p1) p2)) p3) pos) (tRevX X.K te) := by
  refine ⟨fun pins s σ H Q I h => ?_⟩
  refine Subscript_ (thn (he.run pins s σ H _ I h) fun v s1 ⟨x, H1, I1, r1, q1⟩ => ?_)
  obtain ⟨a, xs, rfl, hx, q⟩ := q1
  cases r1
  have hst : PO X (some (.UnaryOp .USub (.Constant (.int 1) k p1) p2)) (tPart (tUn (rU fun i => .int (-i)) (tC (.int 1)))) := po_some (pe_un un_neg pe_int)
  refine wpAny_Slice (thn (po_none.run pins s1 σ H1 (fun o H2 => o = none ∧ H2 = H1) I1 ⟨rfl, rfl⟩) fun vl s2 ⟨l, H2, I2, pl, el, e2⟩ => ?_)
  subst el e2
  refine thn (po_none.run pins s2 σ H2 (fun o H3 => o = none ∧ H3 = H2) I2 ⟨rfl, rfl⟩) fun vu s3 ⟨u, H3, I3, pu, eu, e3⟩ => ?_
  subst eu e3
  refine thn (hst.run pins s3 σ H3 (fun o H4 => o = some (-1) ∧ H4 = H3) I3 ⟨1, rfl, -1, rfl, rfl, rfl⟩) fun vs s4 ⟨o, H4, I4, ps, eo, e4⟩ => ?_
  subst eo e4
  have I5 : Inv X pins σ H4 { s4 with heap := s4.heap.push { cls := .type "slice", data := .fields #[vl, vu, vs] } } := I4.kept (t' := s4.toks) fun b ob q => Heap.get?_push_of_some _ q
  obtain ⟨its, r, ht, hz⟩ := I5.tuple hx
  have hlen := r.length
  show wpAny (model X.prog X.w) X.A (subscriptTail e (.Slice none none (some (.UnaryOp .USub (.Constant (.int 1) k p1) p2)) p3) (.ref a) (.ref s4.heap.objs.size)) (EP X pins σ Q) X.xe { s4 with heap := s4.heap.push { cls := .type "slice", data := .fields #[vl, vu, vs] } }
  refine tail_any (ops := [.ref a, .ref s4.heap.objs.size]) ht.typeIs (PyProof.Rows.slot_tuple_getitem.lookup) ?_ (by with_unfolding_all rfl)
  refine getItem_tuple_back ht (Heap.IsSliceOf.new _ vl vu vs) pl pu ps ?_ (by rw [List.size_toArray]; omega)
  exact ⟨.ref _, _, laidX I5 r.reverse (by rw [List.length_reverse]; exact hz) (fun b ob q => Heap.get?_push_of_some _ q) _ (Nat.le_refl _) (Heap.get?_push_size _ rfl) s4.toks, rfl, q _ _ (I5.hok.fresh (Nat.le_refl _)) ⟨rfl, rfl⟩⟩
theorem dRev {k : Nat} {p1 p2 p3 : Pos} (h : DE X G r e (.tuple xs) r1) : DE X G r (.Subscript e (.Slice none none (some (.UnaryOp .USub (.Constant (.int 1) k p1) p2)) p3) pos) (.tuple xs.reverse) r1 :=
  pe_imp (pe_revX h) fun σ H Q ⟨M, o, q⟩ => ⟨M, o, fun v H1 o1 s1 dx => by
    cases dx with
    | @tup p vs _ hx ha =>
      exact ⟨p, vs, rfl, (hx.mono msk_le).t, fun p' ob hp ho => q _ _ (o1.laid hp) (Same.trans s1 (msk_grow (same_new hp))) (.tup (SqX.of (msk_new o1 hp) ho) (dpa_mono (msk_grow (same_new hp)) _ _ (dpa_reverse ha)))⟩⟩
end
end DL
end Sec_D8
section Sec_D9
set_option maxRecDepth 100000
/-! The data layer 9: min of a pair, enumerate, zip, dicts. -/
namespace DL
open PySem PySem.Spec PyProof.Rows L2
section
variable {X : Cx} {G : Fr0} {r r1 r2 : Rho} {a b e : Expr} {es : List Expr} {pos : Pos} {x y : PyData} {xs ys : List PyData} {i j : Int} {p : Pos}
/-! ### min of a pair -/
theorem cr_minP (hc : X.calm = true) (hu : X.A.units + 64 < cLine) : CallR X (.builtin "min") (fun vs H Q => ∃ (a : Addr) (i j : Int), vs = [V.ref a] ∧ SqT X.K H a [.int i, .int j] ∧ Q (.int (min i j)) H) := by
  intro pins s σ H vs us Q I r h
  obtain ⟨a, i, j, rfl, hs, q⟩ := h
  obtain ⟨its, rv, hT, hz⟩ := I.tuple hs
  rw [Vals.ref1 r]
  have hr : ReadsAll s.heap its.toArray.toList [.int i, .int j] [] := by
    cases rv with
    | cons r1 r2 =>
      cases r2 with
      | cons r2 r3 =>
        cases r3
        obtain ⟨t, rfl⟩ := r1
        obtain ⟨t2, rfl⟩ := r2
        exact .cons (as := []) (bs := []) (.int i t) (.cons (as := []) (bs := []) (.int j t2) .nil)
  have e : ∀ d, d ∈ [PyData.int i, .int j] → ∃ k, d = .int k := fun d hd => by
    rcases List.mem_cons.mp hd with z | hd
    · exact ⟨_, z⟩
    · exact ⟨_, List.mem_singleton.mp hd⟩
  refine PySem.W.min_tuple_data (I.ok.hd hc) hT hr ⟨fun d hd d' hd' => ?_, fun d hd => ?_⟩ (by simp [PyData.depthAll, PyData.depth]; omega) fun n v h' tk bs _ rd hk => ?_
  · obtain ⟨k, rfl⟩ := e d hd
    obtain ⟨k', rfl⟩ := e d' hd'
    simp [PySem.W.alike]
  · obtain ⟨k, rfl⟩ := e d hd
    exact fun z => nomatch z
  · have em : PySem.W.minD (.int i) [.int j] = .int (min i j) := PySem.W.minD_ints i [j]
    rw [em] at rd
    cases rd with
    | int _ t => exact ⟨.int _, H, I.kept (t' := tk) hk, ⟨t, rfl⟩, q⟩
theorem dMinP (hm : X.mg "min" = none) (hu : X.A.units + 64 < cLine) (h : DE X G r e (.tuple [.int i, .int j]) r1) (hc : X.calm = true := by rfl) (hg : Gl X "min" := by rfl) (he : starEach [e] X.env = (false, eval e X.env) :: starEach [] X.env := by rfl) (hpl : (backTo pos (starEach [] X.env)).any (·.1) = false := by rfl) :
    DE X G r (.Call (.Name "min" p) [e] [] pos) (.int (min i j)) r1 :=
  pe_imp (pe_callB (cr_minP hc hu) hg hm PyProof.Rows.boot_min (aOne h he) (by decide) (by decide) he hpl) fun σ H Q ⟨M, o, q⟩ => ⟨M, o, fun vs H1 o1 s1 dx => by
    obtain ⟨v, rfl, dv⟩ := dpa1 dx
    cases dv with
    | @tup l xs _ hs ha =>
      obtain ⟨v, w, rfl, d1, d2⟩ := dpa2 ha
      cases d1
      cases d2
      exact ⟨l, i, j, rfl, (hs.mono msk_le).t, q _ _ o1 s1 (.int _)⟩⟩
/-! ### enumerate(tuple) -/
/-- the tuple at a, each item in a new pair -/
def Ien (K : PySem.W.Frag) (a : Addr) : It :=
  ⟨fun i H => ∃ (xs : List V) (x : V), SqT K H a xs ∧ xs[i]? = some x, fun i H v H' => ∃ T o x, v = .ref T ∧ H T = none ∧ PlainO o ∧ H' = upd H T (.frz o (.tup [.int (i : Nat), x])) ∧ ∀ xs, SqT K H a xs → xs[i]? = some x, fun i H => ∃ xs : List V, SqT K H a xs ∧ xs.length ≤ i⟩
theorem turn_en {P : Program} {w : World} {K : PySem.W.Frag} {elts : List Expr} {kk : Nat} {tpos : Pos} (a e it : Addr) (items : Array Value) (hae : a ≠ it) (hee : e ≠ it) (hea : e ≠ a) :
    Turn P w K (.Tuple elts kk tpos) (Ien K a) [e, it] e (fun i h => (∃ old, IsEnum h e it ((i : Nat) : Int) old) ∧ h.IsTupleIter it a i) where
  mem := by simp
  obj := fun i h st b hb => by
    obtain ⟨⟨old, he⟩, ⟨o, ho, hc, hd⟩⟩ := st
    rcases List.mem_cons.mp hb with z | z
    · rw [z]; exact ⟨_, he, fun v q => nomatch q⟩
    · rw [List.mem_singleton.mp z]; exact ⟨o, ho, fun v q => by rw [hd] at q; cases q⟩
  keep := fun i h h' st k => let ⟨⟨old, he⟩, hi⟩ := st; ⟨⟨old, k e (by simp) _ he⟩, hi.at fun o q => k it (by simp) o q⟩
  item := by
    intro X hP hw hK hc i pins s σ H E I hf st hg
    subst hP hw hK
    obtain ⟨⟨old, he⟩, hit⟩ := st
    obtain ⟨xs, x, hq, hx⟩ := hg
    obtain ⟨its, rv, p, hz⟩ := I.tuple hq
    obtain ⟨u, hu, ru⟩ := rv.get hx
    have hel : e < s.heap.objs.size := Heap.lt_size he
    have hil : it < s.heap.objs.size := by obtain ⟨_, q, _⟩ := hit; exact Heap.lt_size q
    have hlt : i < its.toArray.size := by
      have := (List.getElem?_eq_some_iff.mp hu).1
      rw [List.size_toArray]; exact this
    refine wpAny_pyNext_enum_itemD (Draws.tuple (A := X.A.in1) (I.ok.hd hc) it a hae its.toArray) he ⟨hit, p⟩ hlt hee (by simp [hee, hea]) fun v h' tk hP ho hst hT hsz hk => ?_
    have ev : v = u := by
      have h1 : its[i]? = some v := by simpa using hP
      rw [hu] at h1
      exact (Option.some.inj h1).symm
    subst ev
    refine ⟨_, rfl, wpAny_letOwnedTupleGo_enum (s := { s with heap := h', toks := tk + 1 }) ho fun h'' he' sb => ?_⟩
    have hT2 : h''.get? s.heap.objs.size = some { cls := .type "tuple", data := .seq #[.int i tk, v] } := (sb.2 _ (Nat.ne_of_gt hel)).trans hT
    have new : ObjOk X.prog X.w (upd H s.heap.objs.size (.frz { cls := .type "tuple", data := .seq #[.int i tk, v] } (.tup [.int (i : Nat), x]))) h'' s.heap.objs.size (.frz { cls := .type "tuple", data := .seq #[.int i tk, v] } (.tup [.int (i : Nat), x])) :=
      ⟨hT2, by show 2 ≤ sizeLine; decide, [.int i tk, v], .cons ⟨_, rfl⟩ (.cons ru .nil), ⟨_, hT2, rfl, _, rfl⟩⟩
    have I1 : Inv X pins σ (upd H s.heap.objs.size (.frz { cls := .type "tuple", data := .seq #[.int i tk, v] } (.tup [.int (i : Nat), x]))) { s with heap := h'', toks := tk + 1 } :=
      I.turnedNew (ch := [e, it]) (fun b ob hb q => (sb.2 b (fun z => hb (by simp [z]))).trans (hk b ob (fun z => hb (by simp [z])) (fun z => hb (by simp [z])) q)) hf (Nat.le_refl _) new
    refine ⟨.ref s.heap.objs.size, _, I1, rfl, ⟨_, _, x, rfl, I.hok.fresh (Nat.le_refl _), ⟨rfl, rfl⟩, rfl, fun ys hy => by rw [I.tuple_inj hy hq]; exact hx⟩, ⟨⟨v, ?_⟩, hst.1.at fun o q => (sb.2 it (Ne.symm hee)).trans q⟩, fun b hb => ?_⟩
    · have e1 : ((i + 1 : Nat) : Int) = (i : Int) + 1 := by omega
      rw [e1]; exact he'
    · have hb' : b < s.heap.objs.size := by
        rcases List.mem_cons.mp hb with z | z
        · rw [z]; exact hel
        · rw [List.mem_singleton.mp z]; exact hil
      rw [upd_ne (Nat.ne_of_lt hb')]
      exact (hf b hb).1
  done := by
    intro X hP hw hK hc i pins s σ H E I hf st hg
    subst hP hw hK
    obtain ⟨⟨old, he⟩, hit⟩ := st
    obtain ⟨xs, hq, hx⟩ := hg
    obtain ⟨its, rv, p, hz⟩ := I.tuple hq
    obtain ⟨f0, f1, f2, f3, f4, f5⟩ := hf it (by simp)
    have hl := rv.length
    have D := Draws.tuple (prog := X.prog) (w := X.w) (A := X.A.in1) (I.ok.hd hc) it a hae its.toArray
    unfold pyNext
    refine wpAny_bind (wpAny_attempt (wpAny_callSpecial?_slot (name := Str.ofString "__next__") ⟨_, he, rfl⟩ F.slot_enumerate_next
      (wpAny_call_entry F.slot_enumerate_next ⟨_, he, rfl⟩ F.entry_enumerate_next ?_ (F.args_enumerate_next_1 _))))
    show wpAny _ _ (field (.ref e) 2 >>= _) _ _ _
    refine wpAny_bind (wpAny_field he rfl (x := .ref it) rfl ?_)
    refine wpAny_bind (wpAny_nextOf_tuple_end (A := X.A.in1) (I.ok.hd hc) hit p (by simp; omega) fun h' x he' hx' => ?_)
    obtain ⟨o, ho, hc'⟩ := hx'
    refine wpAny_bind (wpAny_isInstance (T := "StopIteration") (b := true) ⟨o, ho, hc'⟩ isSubtype_stop ?_)
    exact wpAny_pure ⟨rfl, I.turned (t' := s.toks) (fun b o hb q => he' b o hb q) f0 f1 f3 f4 f5⟩
  self := fun A i s Q E st h => let ⟨⟨_, he⟩, _⟩ := st; wpAny_pyIter_enum he h
/-- enumerate.__new__ of a tuple -/
theorem meets_enum_tup {t : Addr} {items : Array Value} : Meets (Builtin.«enumerate.__new__» ⟨[.type "enumerate", .ref t], []⟩) (fun _ R s => s.heap.IsTuple t items ∧
    R (.ok (.ret (.ref (s.heap.push { cls := .type "tuple_iterator", data := .fields #[.ref t, .int 0 0] }).objs.size))) { s with heap := (s.heap.push { cls := .type "tuple_iterator", data := .fields #[.ref t, .int 0 0] }).push { cls := .type "enumerate", data := .fields #[.none, .bool false, .ref s.heap.objs.size, rawInt 0, .none, .none] } }) :=
  .of_wp fun prog w A R s h => by
    obtain ⟨hp, g, d, tk, os⟩ := s
    obtain ⟨h1, h⟩ := h
    have hsub := sub_enumerate
    have q1 : ∀ {A' : Around} {E : Value → Shared → Prop} {Q : Value → Shared → Prop}, Q (.ref hp.objs.size) ⟨hp.push { cls := .type "tuple_iterator", data := .fields #[.ref t, .int 0 0] }, g, d, tk, os⟩ → wpAny (model prog w) A' (pyIter (.ref t)) Q E ⟨hp, g, d, tk, os⟩ :=
      fun q => (begins_tuple t items).iter prog w _ _ ⟨hp, g, d, tk, os⟩ _ h1 q
    wp_walk using q1
    refine wpAny_stack_any fun st => wpAny_pure ?_
    split
    · rename_i c _ _ _ _ _
      cases (c == Value.type "enumerate")
      · wp_walk using q1
        exact ⟨_, rfl, h⟩
      · wp_walk using q1
        exact ⟨_, rfl, h⟩
    · wp_walk using q1
      exact ⟨_, rfl, h⟩
theorem call_enum_tup {prog : Program} {w : World} {A : Around} {E : Value → Shared → Prop} {s : Shared} {t : Addr} {items : Array Value} {Q : Value → Shared → Prop} (h1 : s.heap.IsTuple t items)
    (h : ∀ h', IsEnum h' (s.heap.objs.size + 1) s.heap.objs.size 0 .none → h'.IsTupleIter s.heap.objs.size t 0 → h'.objs.size = s.heap.objs.size + 2 → (∀ b o, s.heap.get? b = some o → h'.get? b = some o) → Q (.ref (s.heap.objs.size + 1)) { s with heap := h' }) :
    wpAny (model prog w) A (call (.type "enumerate") [.ref t]) Q E s := by
  refine callType_new F.called_enumerate (by decide) (F.typeCall_enumerate_1 _) (F.newCall_enumerate_1 _) (fun obj => F.args_object_init_2 obj _) F.entry_enumerate_new (meets_enum_tup (items := items)) ⟨h1, ?_⟩
  have hz : (s.heap.push { cls := .type "tuple_iterator", data := .fields #[.ref t, .int 0 0] }).objs.size = s.heap.objs.size + 1 := Heap.size_push ..
  show _ ∧ _
  rw [hz]
  have he : IsEnum ((s.heap.push { cls := .type "tuple_iterator", data := .fields #[.ref t, .int 0 0] }).push { cls := .type "enumerate", data := .fields #[.none, .bool false, .ref s.heap.objs.size, rawInt 0, .none, .none] }) (s.heap.objs.size + 1) s.heap.objs.size 0 .none := by
    have := Heap.get?_push_size (s.heap.push { cls := .type "tuple_iterator", data := .fields #[.ref t, .int 0 0] }) (o := { cls := .type "enumerate", data := .fields #[.none, .bool false, .ref s.heap.objs.size, rawInt 0, .none, .none] }) rfl
    rw [hz] at this; exact this
  exact ⟨⟨_, he, rfl⟩, h _ he ⟨_, Heap.get?_push_of_some _ (Heap.get?_push_size _ rfl), rfl, rfl⟩ (by rw [Heap.size_push, hz]) fun b o x => Heap.get?_push_of_some _ (Heap.get?_push_of_some _ x)⟩
def iEn (K : PySem.W.Frag) (ta : TA) : TI := fun σ H R => ta σ H fun vs H1 => ∃ a xs, vs = [.ref a] ∧ SqT K H1 a xs ∧ R (Ien K a) H1
theorem pi_en {ta : TA} {tpos : Pos} {elts : List Expr} {kk : Nat} (hg : Gl X "enumerate") (hm : X.mg "enumerate" = none) (ha : PA X [e] ta) (hs : starEach [e] X.env = [(false, eval e X.env)] := by rfl) :
    PI X (.Tuple elts kk tpos) (.Call (.Name "enumerate" p) [e] [] pos) (iEn X.K ta) := by
  refine ⟨fun pins s σ H R I h => ?_⟩
  refine Call_ (ld_blt I hg hm boot_enumerate (PyProof.Rows.callWith_type1 (thn (ha.run pos pins s σ H _ I h) fun us s1 ⟨vs, H1, I1, r1, q1⟩ => ?_) hs rfl))
  obtain ⟨a, xs, rfl, hq, q⟩ := q1
  rw [Vals.ref1 r1]
  obtain ⟨its, rv, p', hz⟩ := I1.tuple hq
  refine call_enum_tup p' fun h' he hit hsz hk => wpAny_pyIter_enum he ?_
  have I2 : Inv X pins σ H1 { s1 with heap := h' } := I1.kept (t' := s1.toks) hk
  have hlt : a < s1.heap.objs.size := p'.lt
  refine ⟨s1.heap.objs.size + 1, [s1.heap.objs.size + 1, s1.heap.objs.size], _, _, H1, rfl, I2, turn_en a (s1.heap.objs.size + 1) s1.heap.objs.size its.toArray (Nat.ne_of_lt hlt) (Nat.succ_ne_self _) (Nat.ne_of_gt (Nat.lt_succ_of_lt hlt)), ⟨⟨.none, he⟩, hit⟩, fun b hb => ?_, q⟩
  have hle : s1.heap.objs.size ≤ b := by
    rcases List.mem_cons.mp hb with z | z
    · rw [z]; exact Nat.le_succ _
    · rw [List.mem_singleton.mp z]; exact Nat.le_refl _
  exact I1.fpOk hle (I1.hok.fresh hle)
/-- the pairs (0, x), (1, y), .. -/
def enD (xs : List PyData) : List PyData := (List.range xs.length).map fun i => .tuple [.int (i : Nat), xs.getD i .none]
theorem enD_len (xs : List PyData) : (enD xs).length = xs.length := by simp [enD]
theorem iEnT {elts : List Expr} {kk : Nat} {tpos : Pos} (hm : X.mg "enumerate" = none) (h : DE X G r e (.tuple xs) r1) (hg : Gl X "enumerate" := by rfl) (hs : starEach [e] X.env = [(false, eval e X.env)] := by rfl) :
    DI X G r (.Tuple elts kk tpos) (.Call (.Name "enumerate" p) [e] [] pos) (enD xs) r1 :=
  pi_imp (pi_en hg hm (aOne h hs) hs) fun σ H R ⟨M, o, q⟩ => ⟨M, o, fun vs H1 o1 s1 dx => by
    obtain ⟨v, rfl, dv⟩ := dpa1 dx
    cases dv with
    | @tup p vs _ hx ha =>
      refine ⟨p, vs, rfl, (hx.mono msk_le).t, q (Ien X.K p) H1 (fun H => SqT X.K H p vs ∧ DqAll X.K H vs xs) o1 s1 ⟨fun H H' s ⟨h1, h2⟩ => ⟨same_sqt s h1, dpa_mono s _ _ h2⟩, fun i M H ⟨h1, h2⟩ hi => ?_, fun M H ⟨h1, h2⟩ => ?_, fun i M H v H' dom ⟨h1, h2⟩ hi hy => ?_⟩ ⟨hx.t, ha⟩⟩
      · rw [enD_len] at hi
        obtain ⟨v, e1, _⟩ := dpa_get h2 (List.getElem?_eq_getElem hi)
        exact ⟨vs, v, same_sqt msk_le h1, e1⟩
      · exact ⟨vs, same_sqt msk_le h1, by rw [enD_len, dpa_length h2]; exact Nat.le_refl _⟩
      · obtain ⟨T, ob, y, rfl, hT, ho, rfl, hy⟩ := hy
        have e := hy vs (same_sqt msk_le h1)
        obtain ⟨d, e1, e2⟩ := dpa_of_get h2 e
        have sn := same_new (o := .frz ob (.tup [.int (i : Nat), y])) hT
        have nin : T ∉ M := fun z => dom T z hT
        refine ⟨sn, .tuple [.int (i : Nat), d], ?_, .tup (SqX.of (by rw [msk_out nin, upd_same]) ho) (.cons (.int _) (.cons (dp_mono (msk_grow sn) _ _ e2) .nil))⟩
        rw [enD_len] at hi
        have e3 : xs.getD i .none = d := by rw [List.getD_eq_getElem?_getD, e1]; rfl
        simp [enD, hi, ← e3]⟩
end
end DL
end Sec_D9
section Sec_D10
set_option maxRecDepth 100000
/-! The data layer 10: zip, dicts, a branch that is never taken. -/
namespace DL
open PySem PySem.Spec PyProof.Rows L2
section
variable {X : Cx} {G : Fr0} {r r1 r2 : Rho} {a b e : Expr} {es : List Expr} {pos : Pos} {x y : PyData} {xs ys : List PyData} {i j : Int} {p : Pos}
/-- the lists at a and b, their items in new pairs -/
def Izp (K : PySem.W.Frag) (a b : Addr) : It :=
  ⟨fun i H => ∃ (xs ys : List V) (x y : V), SqL K H a xs ∧ SqL K H b ys ∧ xs[i]? = some x ∧ ys[i]? = some y,
    fun i H v H' => ∃ T o x y, v = .ref T ∧ H T = none ∧ PlainO o ∧ H' = upd H T (.frz o (.tup [x, y])) ∧ (∀ xs, SqL K H a xs → xs[i]? = some x) ∧ ∀ ys, SqL K H b ys → ys[i]? = some y,
    fun i H => ∃ xs ys : List V, SqL K H a xs ∧ SqL K H b ys ∧ (xs.length ≤ i ∨ ys.length ≤ i)⟩
theorem mem5 {α : Type} {c z TI TO i1 i2 : α} (h : c ∈ [z, TI, TO, i1, i2]) : c = z ∨ c = TI ∨ c = TO ∨ c = i1 ∨ c = i2 := by simpa using h
theorem turn_zp {P : Program} {w : World} {K : PySem.W.Frag} {elts : List Expr} {kk : Nat} {tpos : Pos} {a b z TI TO i1 i2 : Addr} (D : ZipApart z TI TO i1 i2 a b) :
    Turn P w K (.Tuple elts kk tpos) (Izp K a b) [z, TI, TO, i1, i2] z (fun i h => IsZip h z TI TO .none ∧ IsPair h TI (.ref i1) (.ref i2) ∧ (∃ x y, IsPair h TO x y) ∧ h.IsListIter i1 a i ∧ h.IsListIter i2 b i) where
  mem := by simp
  obj := (turn_zip (P := P) (w := w) (K := K) (elts := elts) (kk := kk) (tpos := tpos) D).obj
  keep := (turn_zip (P := P) (w := w) (K := K) (elts := elts) (kk := kk) (tpos := tpos) D).keep
  item := by
    intro X hP hw hK hc i pins s σ H E I hf st hg
    subst hP hw hK
    obtain ⟨hz, hTI, ⟨x0, y0, hTO⟩, h1, h2⟩ := st
    obtain ⟨xs, ys, x, y, hqx, hqy, hx, hy⟩ := hg
    obtain ⟨its, rv, p, _⟩ := I.list hqx
    obtain ⟨its2, rv2, p2, _⟩ := I.list hqy
    obtain ⟨u, hu, ru⟩ := rv.get hx
    obtain ⟨u2, hu2, ru2⟩ := rv2.get hy
    have hzl : z < s.heap.objs.size := Heap.lt_size hz
    refine wpAny_pyNext_zip_item D hz hTI hTO h1 h2 p.isList p2.isList (x := u) (y := u2) (by simpa using hu) (by simpa using hu2) fun h' z' TO' h1' h2' hT hsz hk => ?_
    refine ⟨_, rfl, wpAny_letOwnedTupleGo_zip (s := { s with heap := h' }) z' fun h'' z'' sb => ?_⟩
    have hT2 : h''.get? s.heap.objs.size = some { cls := .type "tuple", data := .seq #[u, u2] } := (sb.2 _ (Nat.ne_of_gt hzl)).trans hT
    have new : ObjOk X.prog X.w (upd H s.heap.objs.size (.frz { cls := .type "tuple", data := .seq #[u, u2] } (.tup [x, y]))) h'' s.heap.objs.size (.frz { cls := .type "tuple", data := .seq #[u, u2] } (.tup [x, y])) :=
      ⟨hT2, by show 2 ≤ sizeLine; decide, [u, u2], .cons ru (.cons ru2 .nil), ⟨_, hT2, rfl, _, rfl⟩⟩
    have I1 : Inv X pins σ (upd H s.heap.objs.size (.frz { cls := .type "tuple", data := .seq #[u, u2] } (.tup [x, y]))) { s with heap := h'' } :=
      I.turnedNew (t' := s.toks) (ch := [z, TI, TO, i1, i2]) (fun c o hb q => by
        simp only [List.mem_cons, List.not_mem_nil, or_false, not_or] at hb
        obtain ⟨b1, b2, b3, b4, b5⟩ := hb
        exact (sb.2 c b1).trans (hk c o b1 b3 b4 b5 q)) hf (Nat.le_refl _) new
    refine ⟨.ref s.heap.objs.size, _, I1, rfl, ⟨_, _, x, y, rfl, I.hok.fresh (Nat.le_refl _), ⟨rfl, rfl⟩, rfl, fun l hl => by rw [I.list_inj hl hqx]; exact hx, fun l hl => by rw [I.list_inj hl hqy]; exact hy⟩,
      ⟨z'', (sb.2 _ D.TIz).trans (hk _ _ D.TIz D.TITO D.TIi1 D.TIi2 hTI), ⟨u, u2, (sb.2 _ D.TOz).trans TO'⟩, h1'.at fun o q => (sb.2 _ D.i1z).trans q, h2'.at fun o q => (sb.2 _ D.i2z).trans q⟩, fun c hcm => ?_⟩
    have hlt : c < s.heap.objs.size := by
      rcases mem5 hcm with q | q | q | q | q
      · rw [q]; exact hzl
      · rw [q]; exact Heap.lt_size hTI
      · rw [q]; exact Heap.lt_size hTO
      · rw [q]; obtain ⟨_, e1, _⟩ := h1; exact Heap.lt_size e1
      · rw [q]; obtain ⟨_, e2, _⟩ := h2; exact Heap.lt_size e2
    rw [upd_ne (Nat.ne_of_lt hlt)]
    exact (hf c hcm).1
  done := fun X hP hw hK hc i pins s σ H E I hf st hg => (turn_zip (P := P) (w := w) (K := K) (elts := elts) (kk := kk) (tpos := tpos) D).done X hP hw hK hc i pins s σ H E I hf st hg
  self := (turn_zip (P := P) (w := w) (K := K) (elts := elts) (kk := kk) (tpos := tpos) D).self
def iZp (K : PySem.W.Frag) (ta : TA) : TI := fun σ H R => ta σ H fun vs H1 => ∃ a b xs ys, vs = [.ref a, .ref b] ∧ SqL K H1 a xs ∧ SqL K H1 b ys ∧ R (Izp K a b) H1
theorem pi_zp {ta : TA} {tpos : Pos} {elts : List Expr} {kk : Nat} (hg : Gl X "zip") (hm : X.mg "zip" = none) (ha : PA X [a, b] ta)
    (hs : starEach [a, b] X.env = (false, eval a X.env) :: starEach [b] X.env := by rfl) (hpl : (backTo pos (starEach [b] X.env)).any (·.1) = false := by rfl) :
    PI X (.Tuple elts kk tpos) (.Call (.Name "zip" p) [a, b] [] pos) (iZp X.K ta) := by
  refine ⟨fun pins s σ H R I h => ?_⟩
  refine Call_ (ld_blt I hg hm PyProof.Rows.boot_zip (PyProof.Rows.callWith_type1 (thn (ha.run pos pins s σ H _ I h) fun us s1 ⟨vs, H1, I1, r1, q1⟩ => ?_) hs hpl))
  obtain ⟨a, b, xs, ys, rfl, hqx, hqy, q⟩ := q1
  cases r1 with
  | cons r rr =>
    cases rr with
    | cons r' rr =>
      cases rr
      cases r
      cases r'
      obtain ⟨its, rv, p1, _⟩ := I1.list hqx
      obtain ⟨its2, rv2, p2, _⟩ := I1.list hqy
      refine call_zip_2 p1.isList p2.isList fun h' hz hTI hTO h1 h2 hsz hk => wpAny_pyIter_zip hz ?_
      have I2 : Inv X pins σ H1 { s1 with heap := h' } := I1.kept (t' := s1.toks) hk
      refine ⟨s1.heap.objs.size + 4, [s1.heap.objs.size + 4, s1.heap.objs.size + 2, s1.heap.objs.size + 3, s1.heap.objs.size, s1.heap.objs.size + 1], _, _, H1, rfl, I2, turn_zp (PySem.W.ktu_apart s1.heap.objs.size a b p1.lt p2.lt), ⟨hz, hTI, ⟨_, _, hTO⟩, h1, h2⟩, fun c hcm => ?_, q⟩
      have hle : s1.heap.objs.size ≤ c := by
        rcases mem5 hcm with z | z | z | z | z <;> rw [z]
        · exact Nat.le_add_right _ _
        · exact Nat.le_add_right _ _
        · exact Nat.le_add_right _ _
        · exact Nat.le_refl _
        · exact Nat.le_add_right _ _
      exact I1.fpOk hle (I1.hok.fresh hle)
def zpD (xs ys : List PyData) : List PyData := (xs.zip ys).map fun q => .tuple [q.1, q.2]
theorem iZ {tpos : Pos} {elts : List Expr} {kk : Nat} (hm : X.mg "zip" = none) (h : DA X G r [a, b] [.list xs, .list ys] r1) (hg : Gl X "zip" := by rfl)
    (hs : starEach [a, b] X.env = (false, eval a X.env) :: starEach [b] X.env := by rfl) (hpl : (backTo pos (starEach [b] X.env)).any (·.1) = false := by rfl) :
    DI X G r (.Tuple elts kk tpos) (.Call (.Name "zip" p) [a, b] [] pos) (zpD xs ys) r1 :=
  pi_imp (pi_zp hg hm h hs hpl) fun σ H R ⟨M, o, q⟩ => ⟨M, o, fun vs H1 o1 s1 dx => by
    obtain ⟨v, w, rfl, dv, dw⟩ := dpa2 dx
    cases dv with
    | @lst p1 vs _ hx ha =>
      cases dw with
      | @lst p2 ws _ hy hb =>
        have lx := dpa_length ha
        have ly := dpa_length hb
        refine ⟨p1, p2, vs, ws, rfl, Same.seq msk_le hx, Same.seq msk_le hy, q (Izp X.K p1 p2) H1 (fun H => (SqL X.K H p1 vs ∧ DqAll X.K H vs xs) ∧ SqL X.K H p2 ws ∧ DqAll X.K H ws ys) o1 s1
          ⟨fun H H' s ⟨⟨h1, h2⟩, h3, h4⟩ => ⟨⟨Same.seq s h1, dpa_mono s _ _ h2⟩, Same.seq s h3, dpa_mono s _ _ h4⟩, fun i M H ⟨⟨h1, h2⟩, h3, h4⟩ hi => ?_, fun M H ⟨⟨h1, h2⟩, h3, h4⟩ => ?_, fun i M H v H' dom ⟨⟨h1, h2⟩, h3, h4⟩ hi hy' => ?_⟩ ⟨⟨hx, ha⟩, hy, hb⟩⟩
        · have hl : i < xs.length ∧ i < ys.length := by
            simp [zpD] at hi; omega
          obtain ⟨v, e1, _⟩ := dpa_get h2 (List.getElem?_eq_getElem hl.1)
          obtain ⟨w, e2, _⟩ := dpa_get h4 (List.getElem?_eq_getElem hl.2)
          exact ⟨vs, ws, v, w, Same.seq msk_le h1, Same.seq msk_le h3, e1, e2⟩
        · refine ⟨vs, ws, Same.seq msk_le h1, Same.seq msk_le h3, ?_⟩
          simp only [zpD, List.length_map, List.length_zip]
          omega
        · obtain ⟨T, ob, v1, v2, rfl, hT, ho, rfl, f1, f2⟩ := hy'
          obtain ⟨d1, e1, e2⟩ := dpa_of_get h2 (f1 vs (Same.seq msk_le h1))
          obtain ⟨d2, e3, e4⟩ := dpa_of_get h4 (f2 ws (Same.seq msk_le h3))
          have sn := same_new (o := .frz ob (.tup [v1, v2])) hT
          have nin : T ∉ M := fun z => dom T z hT
          refine ⟨sn, .tuple [d1, d2], ?_, .tup (SqX.of (by rw [msk_out nin, upd_same]) ho) (.cons (dp_mono (msk_grow sn) _ _ e2) (.cons (dp_mono (msk_grow sn) _ _ e4) .nil))⟩
          simp [zpD, List.getElem?_zip_eq_some, e1, e3]⟩
/-! ### a dict that stands still -/
theorem Ok.setT {K : PySem.W.Frag} {M : List Addr} {r : Rho} {σ : L2.St} {H : Hp} (o : Ok K G M r σ H) {i : Nat} {p : Addr} {kvs : List (Key × V)} (hp : msk M H p = some (.dK kvs)) : Ok K G M (r.set i (Sv.t kvs)) (σ.set i (some (V.ref p))) H := by
  have key : ∀ (j : Nat) (s : Sv), (r.set i (Sv.t kvs))[j]? = some s → (j = i ∧ s = .t kvs) ∨ (j ≠ i ∧ r[j]? = some s ∧ (σ.set i (some (V.ref p)))[j]? = σ[j]?) := by
    intro j s e
    by_cases h : i = j
    · subst h
      by_cases hl : i < r.length
      · rw [List.getElem?_set_self hl] at e
        cases e
        exact .inl ⟨rfl, rfl⟩
      · rw [List.getElem?_eq_none (by simpa using hl)] at e; cases e
    · rw [List.getElem?_set_ne h] at e
      exact .inr ⟨fun z => h z.symm, e, List.getElem?_set_ne h⟩
  refine ⟨o.sub, o.new, o.dom, o.fr, by simp [o.len], fun j y e => ?_, fun j ow xs e => ?_, fun j k ow xs ow' ys a e1 e2 e3 e4 => ?_, o.wm, o.lk, fun j kv e => ?_⟩
  · rcases key j _ e with ⟨_, z⟩ | ⟨_, z, z2⟩
    · cases z
    · rw [z2]; exact o.sv j y z
  · rcases key j _ e with ⟨_, z⟩ | ⟨_, z, z2⟩
    · cases z
    · rw [z2]; exact o.mv j ow xs z
  · rcases key j _ e1 with ⟨_, z⟩ | ⟨_, z, z2⟩
    · cases z
    · rcases key k _ e2 with ⟨_, y⟩ | ⟨_, y, y2⟩
      · cases y
      · rw [z2] at e3
        rw [y2] at e4
        exact o.inj j k _ _ _ _ a z y e3 e4
  · rcases key j _ e with ⟨ej, z⟩ | ⟨_, z, z2⟩
    · cases z
      subst ej
      have hl : j < σ.length := by
        rw [o.len]
        have := (List.getElem?_eq_some_iff.mp e).1
        simpa using this
      exact ⟨p, List.getElem?_set_self hl, hp⟩
    · rw [z2]; exact o.tv j kv z
/-- {s1: t1, s2: t2, s3: t3}, all texts -/
theorem sDict3 (i : Nat) {nm : Str} {p' d1 d2 d3 d4 d5 d6 dp : Pos} {k1 k2 k3 k4 k5 k6} {s1 t1 s2 t2 s3 t3 : Str} (hN : X.N.Nodup) (hi : X.N[i]? = some nm := by rfl) (hx : Loc X.env.scope nm := by first | exact Or.inl rfl | exact Or.inr rfl)
    (hs : swapsWith (.Dict [some (.Constant (.str s1) k1 d1), some (.Constant (.str s2) k2 d2), some (.Constant (.str s3) k3 d3)] [.Constant (.str t1) k4 d4, .Constant (.str t2) k5 d5, .Constant (.str t3) k6 d6] dp) (some (.Name nm p')) pos.line X.env = pure false := by rfl)
    (hf : X.fn nm = true ∨ X.env.scope.names.lookup nm = some .local := by first | exact .inl rfl | exact .inr rfl) :
    DS X G r (.Assign [.Name nm p'] (.Dict [some (.Constant (.str s1) k1 d1), some (.Constant (.str s2) k2 d2), some (.Constant (.str s3) k3 d3)] [.Constant (.str t1) k4 d4, .Constant (.str t2) k5 d5, .Constant (.str t3) k6 d6] dp) pos)
      (.nx (r.set i (.t (mergeK [] [(.inr s1, .str t1), (.inr s2, .str t2), (.inr s3, .str t3)])))) :=
  ps_imp (ps_set hN hi hx (pe_disp (pps_cons pe_str pe_str (pps_cons pe_str pe_str (pps_cons pe_str pe_str pps_nil))) rfl rfl (by simp) (show 3 ≤ 15 by decide)) hs hf) fun D σ H ⟨M, o, q⟩ => by
    intro p hp
    refine ⟨upd_same, [(.inr s1, .str t1), (.inr s2, .str t2), (.inr s3, .str t3)], rfl, show 3 ≤ 15 by decide, ?_⟩
    rw [upd_upd]
    exact q M _ _ ((o.laid hp).setT (msk_new o hp)) (msk_grow (same_new hp))
/-- its item -/
theorem dGetT (n : Nat) {nm : Str} {np : Pos} {kvs : List (Key × V)} {k t : Str} (hu : X.A.units + 1 < cLine) (he : valV kvs (.inr k) = some (.str t)) (hb : DE X G r b (.str k) r1) (hr : r[n]? = some (Sv.t kvs) := by rfl) (hN : X.N[n]? = some nm := by rfl)
    (hv : Vis X.env.scope nm := by first | exact Or.inl rfl | exact Or.inr (Or.inl rfl) | exact Or.inr (Or.inr rfl)) (hd : (nm == ("__debug__" : Str)) = false := by decide) (hcd : (nm == ("__classdict__" : Str)) = false := by decide) (hs : NoSl b := by exact fun _ _ => rfl) :
    DE X G r (.Subscript (.Name nm np) b pos) (.str t) r1 :=
  pe_imp (pe_dget hu (pe_var hN hv hd hcd) hb hs) fun σ H Q ⟨M, o, q⟩ => by
    obtain ⟨a, e1, e2⟩ := o.tv n kvs hr
    refine ⟨_, e1, M, o, fun v H1 o1 s1 dv => ?_⟩
    cases dv
    have e3 : H1 a = some (.dK kvs) := (msk_some (s1 _ _ e2)).2
    refine ⟨a, .str t, rfl, ?_, q _ H1 o1 s1 (.str t)⟩
    rw [← he]
    exact DGet.k (k := .inr k) e3
end
end DL
end Sec_D10
section Sec_T0
set_option maxRecDepth 100000
namespace Kx
open PySem PySem.Spec PyProof.Rows L2 DL
def top (i : Nat) : Stmt := PySem.Challenge.pw_anyrate_k06_whole_which_script_is_cheape.main.body.getD i (.Pass ⟨0, 0, 0, 0⟩)
abbrev FnP (K : PySem.W.Frag) (i : Nat) (x : Str) (f : Addr) (fd : FuncData) : Prop := FunD K x x (defArgs (top i)) (defBody (top i)) (defScope (top i)) [] [] f fd
structure En (K : PySem.W.Frag) (mg : Str → Option Value) : Prop where
  f_lowest : ∃ f fd, FnP K 5 "lowest" f fd ∧ mg "lowest" = some (.ref f)
  f_place_of : ∃ f fd, FnP K 6 "place_of" f fd ∧ mg "place_of" = some (.ref f)
  f_is_less : ∃ f fd, FnP K 7 "is_less" f fd ∧ mg "is_less" = some (.ref f)
  f_middle : ∃ f fd, FnP K 8 "middle" f fd ∧ mg "middle" = some (.ref f)
  f_rounded : ∃ f fd, FnP K 9 "rounded" f fd ∧ mg "rounded" = some (.ref f)
  f_edges : ∃ f fd, FnP K 10 "edges" f fd ∧ mg "edges" = some (.ref f)
  f_in_order : ∃ f fd, FnP K 11 "in_order" f fd ∧ mg "in_order" = some (.ref f)
  f_is_number : ∃ f fd, FnP K 31 "is_number" f fd ∧ mg "is_number" = some (.ref f)
  f_is_from : ∃ f fd, FnP K 32 "is_from" f fd ∧ mg "is_from" = some (.ref f)
  f_is_tuple_of : ∃ f fd, FnP K 33 "is_tuple_of" f fd ∧ mg "is_tuple_of" = some (.ref f)
  f_is_word : ∃ f fd, FnP K 34 "is_word" f fd ∧ mg "is_word" = some (.ref f)
  f_is_rounding : ∃ f fd, FnP K 35 "is_rounding" f fd ∧ mg "is_rounding" = some (.ref f)
  f_is_rule : ∃ f fd, FnP K 36 "is_rule" f fd ∧ mg "is_rule" = some (.ref f)
  f_is_office : ∃ f fd, FnP K 37 "is_office" f fd ∧ mg "is_office" = some (.ref f)
  f_is_shop : ∃ f fd, FnP K 38 "is_shop" f fd ∧ mg "is_shop" = some (.ref f)
  f_is_world : ∃ f fd, FnP K 39 "is_world" f fd ∧ mg "is_world" = some (.ref f)
  f_is_amount : ∃ f fd, FnP K 40 "is_amount" f fd ∧ mg "is_amount" = some (.ref f)
  f_does_this : ∃ f fd, FnP K 41 "does_this" f fd ∧ mg "does_this" = some (.ref f)
  f_is_exchange : ∃ f fd, FnP K 42 "is_exchange" f fd ∧ mg "is_exchange" = some (.ref f)
  f_is_purchase : ∃ f fd, FnP K 43 "is_purchase" f fd ∧ mg "is_purchase" = some (.ref f)
  f_is_deed : ∃ f fd, FnP K 44 "is_deed" f fd ∧ mg "is_deed" = some (.ref f)
  f_are_deeds : ∃ f fd, FnP K 45 "are_deeds" f fd ∧ mg "are_deeds" = some (.ref f)
  f_is_script_of : ∃ f fd, FnP K 46 "is_script_of" f fd ∧ mg "is_script_of" = some (.ref f)
  f_need_world : ∃ f fd, FnP K 47 "need_world" f fd ∧ mg "need_world" = some (.ref f)
  f_need_script : ∃ f fd, FnP K 48 "need_script" f fd ∧ mg "need_script" = some (.ref f)
  f_need_purse : ∃ f fd, FnP K 49 "need_purse" f fd ∧ mg "need_purse" = some (.ref f)
  f_gives : ∃ f fd, FnP K 50 "gives" f fd ∧ mg "gives" = some (.ref f)
  f_tag_of : ∃ f fd, FnP K 52 "tag_of" f fd ∧ mg "tag_of" = some (.ref f)
  f_change_of : ∃ f fd, FnP K 53 "change_of" f fd ∧ mg "change_of" = some (.ref f)
  f_number_told : ∃ f fd, FnP K 54 "number_told" f fd ∧ mg "number_told" = some (.ref f)
  f_with_thing : ∃ f fd, FnP K 55 "with_thing" f fd ∧ mg "with_thing" = some (.ref f)
  f_effect : ∃ f fd, FnP K 56 "effect" f fd ∧ mg "effect" = some (.ref f)
  f_need_of : ∃ f fd, FnP K 57 "need_of" f fd ∧ mg "need_of" = some (.ref f)
  f_thing_by : ∃ f fd, FnP K 58 "thing_by" f fd ∧ mg "thing_by" = some (.ref f)
  f_behind : ∃ f fd, FnP K 59 "behind" f fd ∧ mg "behind" = some (.ref f)
  f_led_by : ∃ f fd, FnP K 60 "led_by" f fd ∧ mg "led_by" = some (.ref f)
  f_within : ∃ f fd, FnP K 64 "within" f fd ∧ mg "within" = some (.ref f)
  f_rule_edges : ∃ f fd, FnP K 65 "rule_edges" f fd ∧ mg "rule_edges" = some (.ref f)
  f_tag_edges : ∃ f fd, FnP K 66 "tag_edges" f fd ∧ mg "tag_edges" = some (.ref f)
  f_change_edges : ∃ f fd, FnP K 67 "change_edges" f fd ∧ mg "change_edges" = some (.ref f)
  f_deed_edges : ∃ f fd, FnP K 68 "deed_edges" f fd ∧ mg "deed_edges" = some (.ref f)
  f_script_edges : ∃ f fd, FnP K 69 "script_edges" f fd ∧ mg "script_edges" = some (.ref f)
  f_cells_of : ∃ f fd, FnP K 70 "cells_of" f fd ∧ mg "cells_of" = some (.ref f)
  f_joined : ∃ f fd, FnP K 71 "joined" f fd ∧ mg "joined" = some (.ref f)
  f_meet : ∃ f fd, FnP K 72 "meet" f fd ∧ mg "meet" = some (.ref f)
  f_costs : ∃ f fd, FnP K 73 "costs" f fd ∧ mg "costs" = some (.ref f)
  f_left_rows : ∃ f fd, FnP K 74 "left_rows" f fd ∧ mg "left_rows" = some (.ref f)
  f_word_for : ∃ f fd, FnP K 75 "word_for" f fd ∧ mg "word_for" = some (.ref f)
  f_parted : ∃ f fd, FnP K 76 "parted" f fd ∧ mg "parted" = some (.ref f)
  f_cheaper_rows : ∃ f fd, FnP K 77 "cheaper_rows" f fd ∧ mg "cheaper_rows" = some (.ref f)
  f_need_both : ∃ f fd, FnP K 78 "need_both" f fd ∧ mg "need_both" = some (.ref f)
  f_cheaper : ∃ f fd, FnP K 79 "cheaper" f fd ∧ mg "cheaper" = some (.ref f)
  f_turns : ∃ f fd, FnP K 80 "turns" f fd ∧ mg "turns" = some (.ref f)
  f__law_bag : ∃ f fd, FnP K 82 "_law_bag" f fd ∧ mg "_law_bag" = some (.ref f)
  f__law_take : ∃ f fd, FnP K 83 "_law_take" f fd ∧ mg "_law_take" = some (.ref f)
  f__law_of : ∃ f fd, FnP K 84 "_law_of" f fd ∧ mg "_law_of" = some (.ref f)
  f__law_rounding : ∃ f fd, FnP K 85 "_law_rounding" f fd ∧ mg "_law_rounding" = some (.ref f)
  f__law_rule : ∃ f fd, FnP K 86 "_law_rule" f fd ∧ mg "_law_rule" = some (.ref f)
  f__law_fine : ∃ f fd, FnP K 87 "_law_fine" f fd ∧ mg "_law_fine" = some (.ref f)
  f__law_world : ∃ f fd, FnP K 88 "_law_world" f fd ∧ mg "_law_world" = some (.ref f)
  f__law_deed : ∃ f fd, FnP K 89 "_law_deed" f fd ∧ mg "_law_deed" = some (.ref f)
  f__law_script : ∃ f fd, FnP K 90 "_law_script" f fd ∧ mg "_law_script" = some (.ref f)
  f__law_lowest : ∃ f fd, FnP K 91 "_law_lowest" f fd ∧ mg "_law_lowest" = some (.ref f)
  f__law_rounded : ∃ f fd, FnP K 92 "_law_rounded" f fd ∧ mg "_law_rounded" = some (.ref f)
  f__law_gives : ∃ f fd, FnP K 93 "_law_gives" f fd ∧ mg "_law_gives" = some (.ref f)
  f__law_tag : ∃ f fd, FnP K 94 "_law_tag" f fd ∧ mg "_law_tag" = some (.ref f)
  f__law_number : ∃ f fd, FnP K 95 "_law_number" f fd ∧ mg "_law_number" = some (.ref f)
  f__law_done : ∃ f fd, FnP K 96 "_law_done" f fd ∧ mg "_law_done" = some (.ref f)
  f__law_led : ∃ f fd, FnP K 97 "_law_led" f fd ∧ mg "_law_led" = some (.ref f)
  f__law_sorted : ∃ f fd, FnP K 98 "_law_sorted" f fd ∧ mg "_law_sorted" = some (.ref f)
  f__law_edges : ∃ f fd, FnP K 99 "_law_edges" f fd ∧ mg "_law_edges" = some (.ref f)
  f__law_deed_edges : ∃ f fd, FnP K 100 "_law_deed_edges" f fd ∧ mg "_law_deed_edges" = some (.ref f)
  f__law_cells : ∃ f fd, FnP K 101 "_law_cells" f fd ∧ mg "_law_cells" = some (.ref f)
  f__law_joined : ∃ f fd, FnP K 102 "_law_joined" f fd ∧ mg "_law_joined" = some (.ref f)
  f__law_script_edges : ∃ f fd, FnP K 103 "_law_script_edges" f fd ∧ mg "_law_script_edges" = some (.ref f)
  f__law_word : ∃ f fd, FnP K 104 "_law_word" f fd ∧ mg "_law_word" = some (.ref f)
  f__law_zero : ∃ f fd, FnP K 105 "_law_zero" f fd ∧ mg "_law_zero" = some (.ref f)
  f_law : ∃ f fd, FnP K 106 "law" f fd ∧ mg "law" = some (.ref f)
  b_abs : mg "abs" = none
  b_list : mg "list" = none
  b_range : mg "range" = none
  b_sorted : mg "sorted" = none
  b_set : mg "set" = none
  b_isinstance : mg "isinstance" = none
  b_int : mg "int" = none
  b_bool : mg "bool" = none
  b_tuple : mg "tuple" = none
  b_str : mg "str" = none
  b_len : mg "len" = none
  b_all : mg "all" = none
  b_max : mg "max" = none
  b_min : mg "min" = none
  b_enumerate : mg "enumerate" = none
  b_zip : mg "zip" = none
  s_DOWN : Cst K mg "DOWN" (.str "down")
  s_UP : Cst K mg "UP" (.str "up")
  s_NEAR : Cst K mg "NEAR" (.str "near")
  s_INTO : Cst K mg "INTO" (.str "into")
  s_BACK : Cst K mg "BACK" (.str "back")
  s_BUY : Cst K mg "BUY" (.str "buy")
  s_OVER : Cst K mg "OVER" (.str "over")
  s_RETURN : Cst K mg "RETURN" (.str "return")
  s_HOME : Cst K mg "HOME" (.str "home")
  s_FAR : Cst K mg "FAR" (.str "far")
  i_FINE : Cst K mg "FINE" (.int 1000000000000000)
  i_MOST : Cst K mg "MOST" (.int 12)
  i_MOST_STEP : Cst K mg "MOST_STEP" (.int 10)
  i_MOST_CHARGE : Cst K mg "MOST_CHARGE" (.int 30)
  i_MOST_CUT : Cst K mg "MOST_CUT" (.int 50)
  i_MOST_DEEDS : Cst K mg "MOST_DEEDS" (.int 8)
  t_RULE_MODES : Cst K mg "RULE_MODES" (.tuple [.str "down", .str "near", .str "nine", .str "up"])
  t_LOW : Cst K mg "LOW" (.tuple [.int 1, .int 4])
  t_HIGH : Cst K mg "HIGH" (.tuple [.int 4, .int 1])
end Kx
end Sec_T0
section Sec_M1
/-! The program's and the law's functions, as plain mathematics. -/
namespace AM
abbrev Rate := Int × Int
inductive Mode where
  | down | up | near | nine
deriving DecidableEq
def LOW : Rate := (1, 4)
def HIGH : Rate := (4, 1)
def gcdI (a b : Int) : Int := (Int.gcd a b : Int)
def lowest (t b : Int) : Rate := (t / gcdI t b, b / gcdI t b)
def isLess (a b : Rate) : Bool := decide (a.1 * b.2 < b.1 * a.2)
def middle (a b : Rate) : Rate := lowest (a.1 * b.2 + b.1 * a.2) (2 * a.2 * b.2)
def mediant (a b : Rate) : Rate := lowest (a.1 + b.1) (a.2 + b.2)
def rounded (m : Mode) (s t b : Int) : Int :=
  match m with
  | .down => t / (b * s) * s
  | .up => (t + b * s - 1) / (b * s) * s
  | .near => (2 * t + b * s) / (2 * b * s) * s
  | .nine => (t + b + b * s - 1) / (b * s) * s - 1
/-- the k-th edge of a rounding, k = 1, 2, .. -/
def edge (m : Mode) (s k : Int) : Rate :=
  match m with
  | .near => lowest ((2 * k - 1) * s) 2
  | .nine => (k * s - 1, 1)
  | _ => (k * s, 1)
def oneTo (n : Int) : List Int := (List.range n.toNat).map fun (i : Nat) => 1 + (i : Int)
def edges (m : Mode) (s most : Int) : List Rate := (oneTo (most / s + 1)).map (edge m s)
structure Ro where
  m : Mode
  s : Int
structure Ru where
  m : Mode
  s : Int
  c : Int
  k : Int
def fall (back : Bool) (r : Rate) : Rate := if back then r else (r.2, r.1)
def gives (u : Ru) (back : Bool) (n : Int) (r : Rate) : Int := max 0 (rounded u.m u.s (n * (fall back r).1 * (100 - u.k)) ((fall back r).2 * 100) - u.c)
def within (l : List Rate) : List Rate := l.filter fun n => !isLess n LOW && !isLess HIGH n
def turned (back : Bool) (top : Int) (e : Rate) : Rate := if back then lowest (100 * e.1) (e.2 * top) else lowest (top * e.2) (100 * e.1)
def ruleEdges (u : Ru) (back : Bool) (n : Int) : List Rate := within (((edges u.m u.s (4 * n + u.s)).filter fun e => decide (0 < e.1)).map (turned back (n * (100 - u.k))))
def Ro.ru (o : Ro) : Ru := ⟨o.m, o.s, 0, 0⟩
abbrev Office := Option Ru × Option Ru
abbrev Shop := Ro × Ro × Bool
structure Wd where
  offices : List Office
  shops : List Shop
inductive Deed where
  | ex (back : Bool) (i : Nat) (n : Int)
  | over (i : Nat) (price much : Int)
  | buy (i : Nat) (price : Int) (home : Bool)
  | ret (i : Nat) (price : Int) (home : Bool)
def ro0 : Ro := ⟨.down, 1⟩
def ru0 : Ru := ⟨.down, 1, 0, 0⟩
def Wd.rule (w : Wd) (i : Nat) (back : Bool) : Ru := (if back then (w.offices.getD i (none, none)).2 else (w.offices.getD i (none, none)).1).getD ru0
def Wd.shop (w : Wd) (i : Nat) : Shop := w.shops.getD i (ro0, ro0, false)
def tag (s : Shop) (price : Int) (r : Rate) : Int := rounded s.1.m s.1.s (price * r.2) r.1
def change (s : Shop) (much : Int) (r : Rate) : Int := rounded s.2.1.m s.2.1.s (much * r.1) r.2
def told (w : Wd) (d : Deed) (r : Rate) : Option Int :=
  match d with
  | .ex back i n => some (gives (w.rule i back) back n r)
  | .over i p m => if m < tag (w.shop i) p r then none else some (change (w.shop i) (m - tag (w.shop i) p r) r)
  | .buy i p home => some (if home then p else tag (w.shop i) p r)
  | .ret i p home => some (if home then p else tag (w.shop i) p r)
abbrev Thing := Int × Int
structure Stand where
  home : Int
  far : Int
  things : List Thing
def leT (a b : Thing) : Bool := decide (a.1 < b.1 ∨ (a.1 = b.1 ∧ a.2 ≤ b.2))
def withThing (l : List Thing) (t : Thing) : List Thing := (l ++ [t]).mergeSort leT
def without (l : List Thing) (t : Thing) : List Thing := l.take (l.idxOf t) ++ l.drop (l.idxOf t + 1)
/-- what a deed does to the home and the far purse -/
def effect (d : Deed) (x : Int) : Int × Int :=
  match d with
  | .ex false _ n => (0 - n, x)
  | .ex true _ n => (x, 0 - n)
  | .over _ _ m => (x, 0 - m)
  | .buy _ _ home => if home then (-1 * x, 0) else (0, -1 * x)
  | .ret _ _ home => if home then (1 * x, 0) else (0, 1 * x)
def need (d : Deed) (x : Int) : Int × Int :=
  match d with
  | .over _ _ m => (0, m)
  | d => (max 0 (0 - (effect d x).1), max 0 (0 - (effect d x).2))
def Deed.many : Deed → Int
  | .ex _ _ _ => 0
  | .over _ _ _ => 1
  | .buy _ _ _ => 1
  | .ret _ _ _ => -1
def Deed.thing : Deed → Option Thing
  | .ex _ _ _ => none
  | .over i p _ => some ((i : Int), p)
  | .buy i p _ => some ((i : Int), p)
  | .ret i p _ => some ((i : Int), p)
def newThings (d : Deed) (l : List Thing) : List Thing :=
  match d with
  | .ex _ _ _ => l
  | .over i p _ => withThing l ((i : Int), p)
  | .buy i p _ => withThing l ((i : Int), p)
  | .ret i p _ => without l ((i : Int), p)
def Deed.lacks (d : Deed) (l : List Thing) : Bool :=
  match d with
  | .ret i p _ => decide (((i : Int), p) ∉ l)
  | _ => false
def behind (st : Stand) (d : Deed) (x : Option Int) : Option Stand :=
  match x with
  | none => none
  | some x => if st.home < (need d x).1 ∨ st.far < (need d x).2 ∨ d.lacks st.things = true then none
    else some ⟨st.home + (effect d x).1, st.far + (effect d x).2, newThings d st.things⟩
def ledGo (w : Wd) (r : Rate) : Nat → Stand → List Int → List Deed → Stand × List Int × Option Nat
  | _, st, found, [] => (st, found, none)
  | i, st, found, d :: ds =>
    match told w d r with
    | none => (st, found, some i)
    | some x => match behind st d (some x) with
      | none => (st, found, some i)
      | some st' => ledGo w r (i + 1) st' (found ++ [x]) ds
def led (w : Wd) (st : Stand) (ds : List Deed) (r : Rate) : Stand × List Int × Option Nat := ledGo w r 0 st [] ds
def deedEdges (w : Wd) (d : Deed) : List Rate :=
  match d with
  | .ex back i n => ruleEdges (w.rule i back) back n
  | .over i p m => ruleEdges (w.shop i).1.ru false p ++ (oneTo m).flatMap fun x => ruleEdges (w.shop i).2.1.ru true x
  | .buy i p _ => ruleEdges (w.shop i).1.ru false p
  | .ret i p _ => ruleEdges (w.shop i).1.ru false p
def scriptEdges (w : Wd) (ds : List Deed) : List Rate := ds.flatMap (deedEdges w)
/-! ### sorted lists of rates -/
def insR (x : Rate) : List Rate → List Rate
  | [] => [x]
  | y :: l => if isLess x y then x :: y :: l else if isLess y x then y :: insR x l else y :: l
def sortR (l : List Rate) : List Rate := l.foldr insR []
/-! ### cells -/
abbrev Span := Rate × Bool × Rate × Bool
def pairsOf (mid : Rate → Rate → Rate) : List Rate → List (Span × Rate)
  | a :: b :: l => ((a, false, b, false), mid a b) :: ((b, true, b, true), b) :: pairsOf mid (b :: l)
  | _ => []
def cellsOf (mid : Rate → Rate → Rate) (some : List Rate) : List (Span × Rate) := ((LOW, true, LOW, true), LOW) :: pairsOf mid (sortR (LOW :: HIGH :: some))
def touch (a b : Span) : Bool := decide (a.2.2.1 = b.1) && (a.2.2.2 || b.2.1)
/-- the program's: rows of equal things that touch are one -/
def joinGo {α : Type} [DecidableEq α] : List (Span × α) → Span × α → List (Span × α)
  | [], last => [last]
  | (s, x) :: l, last => if last.2 = x ∧ touch last.1 s = true then joinGo l ((last.1.1, last.1.2.1, s.2.2.1, s.2.2.2), x) else last :: joinGo l (s, x)
def joined {α : Type} [DecidableEq α] : List (Span × α) → List (Span × α)
  | [] => []
  | row :: l => joinGo l row
/-- the law's: rows of equal things are one -/
def lawJoinGo {α : Type} [DecidableEq α] : List (Span × α) → Span × α → List (Span × α)
  | [], last => [last]
  | (s, x) :: l, last => if last.2 = x then lawJoinGo l ((last.1.1, last.1.2.1, s.2.2.1, s.2.2.2), x) else last :: lawJoinGo l (s, x)
def lawJoined {α : Type} [DecidableEq α] : List (Span × α) → List (Span × α)
  | [] => []
  | row :: l => lawJoinGo l row
def meet (a b : Span) : Option Span :=
  let lo := if isLess a.1 b.1 = true ∨ (a.1 = b.1 ∧ b.2.1 = false) then (b.1, b.2.1) else (a.1, a.2.1)
  let hi := if isLess b.2.2.1 a.2.2.1 = true ∨ (a.2.2.1 = b.2.2.1 ∧ b.2.2.2 = false) then (b.2.2.1, b.2.2.2) else (a.2.2.1, a.2.2.2)
  if isLess hi.1 lo.1 = true ∨ (lo.1 = hi.1 ∧ ¬ (lo.2 = true ∧ hi.2 = true)) then none else some (lo.1, lo.2, hi.1, hi.2)
inductive Word where
  | one | other | same
deriving DecidableEq
def Word.flip : Word → Word
  | .one => .other
  | .other => .one
  | .same => .same
def purse0 (purse : Int × Int) : Stand := ⟨purse.1, purse.2, []⟩
def left (w : Wd) (ds : List Deed) (purse : Int × Int) (r : Rate) : Int × Int := ((led w (purse0 purse) ds r).1.home, (led w (purse0 purse) ds r).1.far)
def costs (w : Wd) (ds : List Deed) (purse : Int × Int) (r : Rate) : Int × Int := (purse.1 - (left w ds purse r).1, purse.2 - (left w ds purse r).2)
abbrev Pair := (Int × Int) × (Int × Int)
def leftRows (w : Wd) (one other : List Deed) (purse : Int × Int) : List (Span × Pair) :=
  joined ((cellsOf middle (scriptEdges w (one ++ other))).map fun c => (c.1, (costs w one purse c.2, costs w other purse c.2)))
def farOf (a b : Int × Int) (r : Rate) : Int := (a.1 - b.1) * r.2 + (a.2 - b.2) * r.1
def wordFor (a b : Int × Int) (r : Rate) : Word := if farOf a b r = 0 then .same else if farOf a b r < 0 then .one else .other
def zeroOf (a b : Int × Int) : Int × Int := if b.2 - a.2 < 0 then (0 - (a.1 - b.1), 0 - (b.2 - a.2)) else (a.1 - b.1, b.2 - a.2)
def partZero (a b : Int × Int) : List Rate := if 0 < (zeroOf a b).2 ∧ 0 < (zeroOf a b).1 then [lowest (zeroOf a b).1 (zeroOf a b).2] else []
def parted (s : Span) (a b : Int × Int) : List (Span × Word) :=
  (cellsOf middle (within (partZero a b ++ [s.1, s.2.2.1]))).filterMap fun c => (meet s c.1).map fun t => (t, wordFor a b c.2)
def cheaperRows (w : Wd) (one other : List Deed) (purse : Int × Int) : List (Span × Word) :=
  joined ((leftRows w one other purse).flatMap fun row => parted row.1 row.2.1 row.2.2)
def turns (rows : List (Span × Word)) : List Rate := sortR (rows.tail.map fun row => row.1.1)
/-! ### the law's -/
def lawWord (a b : Int × Int) (r : Rate) : Word := if farOf a b r = 0 then .same else if 0 < farOf a b r then .one else .other
def lawZero (a b : Int × Int) : List Rate :=
  if (zeroOf a b).2 = 0 ∨ (zeroOf a b).1 * 4 < (zeroOf a b).2 ∨ 4 * (zeroOf a b).2 < (zeroOf a b).1 then [] else [lowest (zeroOf a b).1 (zeroOf a b).2]
def lawRims (w : Wd) (one other : List Deed) (purse : Int × Int) : List Rate :=
  scriptEdges w (one ++ other) ++ (cellsOf mediant (scriptEdges w (one ++ other))).flatMap fun c => lawZero (left w one purse c.2) (left w other purse c.2)
def lawDue (w : Wd) (one other : List Deed) (purse : Int × Int) : List (Span × Word) :=
  lawJoined ((cellsOf mediant (lawRims w one other purse)).map fun c => (c.1, lawWord (left w one purse c.2) (left w other purse c.2) c.2))
end AM
end Sec_M1
section Sec_M2
/-! Rates as rationals; sorted lists of rates. -/
namespace AM
def val (r : Rate) : Rat := (r.1 : Rat) / (r.2 : Rat)
structure Pos (r : Rate) : Prop where
  p : 0 < r.1
  q : 0 < r.2
theorem castpos {a : Int} (h : 0 < a) : (0 : Rat) < (a : Rat) := by
  have : ((0 : Int) : Rat) < (a : Rat) := Rat.intCast_lt_intCast.mpr h
  simpa using this
theorem lt_iff {a b c d : Int} (hb : 0 < b) (hd : 0 < d) : (a : Rat) / (b : Rat) < (c : Rat) / (d : Rat) ↔ a * d < c * b := by
  have h1 := castpos hb
  have h2 := castpos hd
  have e : (c : Rat) / (d : Rat) * (b : Rat) = ((c * b : Int) : Rat) / (d : Rat) := by
    rw [Rat.div_def, Rat.div_def, Rat.intCast_mul]
    grind
  rw [Rat.div_lt_iff h1, e, Rat.lt_div_iff h2, ← Rat.intCast_mul, Rat.intCast_lt_intCast]
theorem val_lt {a b : Rate} (ha : 0 < a.2) (hb : 0 < b.2) : val a < val b ↔ isLess a b = true := by
  unfold val isLess
  rw [decide_eq_true_eq]
  exact lt_iff ha hb
theorem val_eq {a b : Rate} (ha : 0 < a.2) (hb : 0 < b.2) : val a = val b ↔ a.1 * b.2 = b.1 * a.2 := by
  have h1 := lt_iff (a := a.1) (c := b.1) ha hb
  have h2 := lt_iff (a := b.1) (c := a.1) hb ha
  unfold val
  constructor
  · intro h
    have n1 : ¬ a.1 * b.2 < b.1 * a.2 := fun z => by have := h1.mpr z; grind
    have n2 : ¬ b.1 * a.2 < a.1 * b.2 := fun z => by have := h2.mpr z; grind
    omega
  · intro h
    have n1 : ¬ (a.1 : Rat) / (a.2 : Rat) < (b.1 : Rat) / (b.2 : Rat) := fun z => by have := h1.mp z; omega
    have n2 : ¬ (b.1 : Rat) / (b.2 : Rat) < (a.1 : Rat) / (a.2 : Rat) := fun z => by have := h2.mp z; omega
    grind
/-- reduced -/
structure Red (r : Rate) : Prop where
  p : 0 < r.1
  q : 0 < r.2
  g : Int.gcd r.1 r.2 = 1
theorem red_eq {a b : Rate} (ha : Red a) (hb : Red b) (h : val a = val b) : a = b := by
  have e := (val_eq ha.q hb.q).mp h
  have co : ∀ {x y z : Int}, Int.gcd y x = 1 → x ∣ y * z → x ∣ z := fun {x y z} h hd => by
    have hn : x.natAbs ∣ y.natAbs * z.natAbs := by
      rw [← Int.natAbs_mul]
      exact Int.natAbs_dvd_natAbs.mpr hd
    have hc : Nat.Coprime x.natAbs y.natAbs := by
      rw [Nat.coprime_comm]
      exact h
    exact Int.natAbs_dvd_natAbs.mp (hc.dvd_of_dvd_mul_left hn)
  have d1 : a.2 ∣ b.2 := co ha.g ⟨b.1, by rw [e, Int.mul_comm]⟩
  have d2 : b.2 ∣ a.2 := co hb.g ⟨a.1, by rw [← e, Int.mul_comm]⟩
  have e2 : a.2 = b.2 := Int.dvd_antisymm (Int.le_of_lt ha.q) (Int.le_of_lt hb.q) d1 d2
  rw [e2] at e
  exact Prod.ext (Int.eq_of_mul_eq_mul_right (by have := hb.q; omega) e) e2
theorem red_lowest {t b : Int} (ht : 0 < t) (hb : 0 < b) : Red (lowest t b) ∧ val (lowest t b) = (t : Rat) / (b : Rat) := by
  have hg : 0 < gcdI t b := by
    unfold gcdI
    have : Int.gcd t b ≠ 0 := fun h => by have := (Int.gcd_eq_zero_iff.mp h).2; omega
    omega
  have d1 : gcdI t b ∣ t := Int.gcd_dvd_left (a := t) (b := b)
  have d2 : gcdI t b ∣ b := Int.gcd_dvd_right (a := t) (b := b)
  have e1 := Int.ediv_mul_cancel d1
  have e2 := Int.ediv_mul_cancel d2
  have p1 : 0 < t / gcdI t b := Int.pos_of_mul_pos_left (by rw [e1]; exact ht) hg
  have p2 : 0 < b / gcdI t b := Int.pos_of_mul_pos_left (by rw [e2]; exact hb) hg
  refine ⟨⟨p1, p2, ?_⟩, ?_⟩
  · have h0 : 0 < Int.gcd t b := by
      unfold gcdI at hg
      omega
    exact Int.gcd_ediv_gcd_ediv_gcd h0
  · have : val (lowest t b) = val (t, b) := (val_eq (a := lowest t b) (b := (t, b)) p2 hb).mpr (by
      show t / gcdI t b * b = t * (b / gcdI t b)
      generalize gcdI t b = g at e1 e2
      generalize t / g = u at e1
      generalize b / g = v at e2
      rw [← e1, ← e2]
      grind)
    exact this
theorem red_low : Red LOW := ⟨by decide, by decide, by decide⟩
theorem red_high : Red HIGH := ⟨by decide, by decide, by decide⟩
/-! ### sorted lists -/
def Asc (l : List Rate) : Prop := l.Pairwise fun a b => val a < val b
theorem mem_insR {x y : Rate} (hx : Red x) : ∀ {l : List Rate}, (∀ z ∈ l, Red z) → (y ∈ insR x l ↔ y = x ∨ y ∈ l)
  | [], _ => by simp [insR]
  | z :: l, h => by
    have hz := h z List.mem_cons_self
    have ih := mem_insR (y := y) hx (l := l) fun w hw => h w (List.mem_cons_of_mem _ hw)
    unfold insR
    by_cases c : isLess x z = true
    · rw [if_pos c]
      simp
    · rw [if_neg c]
      by_cases d : isLess z x = true
      · rw [if_pos d, List.mem_cons, ih, List.mem_cons]
        constructor
        · rintro (h | h | h)
          · exact .inr (.inl h)
          · exact .inl h
          · exact .inr (.inr h)
        · rintro (h | h | h)
          · exact .inr (.inl h)
          · exact .inl h
          · exact .inr (.inr h)
      · rw [if_neg d]
        have e : x = z := red_eq hx hz (by
          have c' := fun h => c ((val_lt hx.q hz.q).mp h)
          have d' := fun h => d ((val_lt hz.q hx.q).mp h)
          grind)
        rw [e, List.mem_cons]
        constructor
        · exact fun h => .inr h
        · rintro (h | h)
          · exact .inl h
          · exact h
theorem asc_insR {x : Rate} (hx : Red x) : ∀ {l : List Rate}, (∀ z ∈ l, Red z) → Asc l → Asc (insR x l)
  | [], _, _ => List.pairwise_singleton _ _
  | z :: l, h, ha => by
    have hz := h z List.mem_cons_self
    have hl : ∀ w ∈ l, Red w := fun w hw => h w (List.mem_cons_of_mem _ hw)
    obtain ⟨h1, h2⟩ := List.pairwise_cons.mp ha
    have ih := asc_insR hx hl h2
    unfold insR
    by_cases c : isLess x z = true
    · rw [if_pos c]
      refine List.pairwise_cons.mpr ⟨fun w hw => ?_, ha⟩
      have c' := (val_lt hx.q hz.q).mpr c
      rcases List.mem_cons.mp hw with e | hw
      · rw [e]; exact c'
      · have := h1 w hw; grind
    · rw [if_neg c]
      by_cases d : isLess z x = true
      · rw [if_pos d]
        refine List.pairwise_cons.mpr ⟨fun w hw => ?_, ih⟩
        rcases (mem_insR hx hl).mp hw with e | hw
        · rw [e]; exact (val_lt hz.q hx.q).mpr d
        · exact h1 w hw
      · rw [if_neg d]
        exact ha
theorem sortR_ok : ∀ {l : List Rate}, (∀ z ∈ l, Red z) → Asc (sortR l) ∧ ∀ y, y ∈ sortR l ↔ y ∈ l
  | [], _ => ⟨List.Pairwise.nil, fun y => Iff.rfl⟩
  | x :: l, h => by
    have hx := h x List.mem_cons_self
    obtain ⟨h1, h2⟩ := sortR_ok (l := l) fun w hw => h w (List.mem_cons_of_mem _ hw)
    have hr : ∀ z ∈ sortR l, Red z := fun z hz => h z (List.mem_cons_of_mem _ ((h2 z).mp hz))
    refine ⟨asc_insR hx hr h1, fun y => ?_⟩
    show y ∈ insR x (sortR l) ↔ _
    rw [mem_insR hx hr, h2, List.mem_cons]
/-- strictly ascending lists of the same members are equal -/
theorem asc_unique : ∀ {l m : List Rate}, Asc l → Asc m → (∀ y, y ∈ l ↔ y ∈ m) → l = m
  | [], [], _, _, _ => rfl
  | [], y :: m, _, _, h => absurd ((h y).mpr List.mem_cons_self) (by simp)
  | x :: l, [], _, _, h => absurd ((h x).mp List.mem_cons_self) (by simp)
  | x :: l, y :: m, ha, hb, h => by
    obtain ⟨a1, a2⟩ := List.pairwise_cons.mp ha
    obtain ⟨b1, b2⟩ := List.pairwise_cons.mp hb
    have e : x = y := by
      rcases List.mem_cons.mp ((h x).mp List.mem_cons_self) with e | hx
      · exact e
      · rcases List.mem_cons.mp ((h y).mpr List.mem_cons_self) with e | hy
        · exact e.symm
        · have := a1 y hy
          have := b1 x hx
          grind
    subst e
    rw [asc_unique a2 b2 fun z => ?_]
    have nl : ∀ z ∈ l, z ≠ x := fun z hz e => by have := a1 z hz; rw [e] at this; grind
    have nm : ∀ z ∈ m, z ≠ x := fun z hz e => by have := b1 z hz; rw [e] at this; grind
    constructor
    · intro hz
      rcases List.mem_cons.mp ((h z).mp (List.mem_cons_of_mem _ hz)) with e | hz'
      · exact absurd e (nl z hz)
      · exact hz'
    · intro hz
      rcases List.mem_cons.mp ((h z).mpr (List.mem_cons_of_mem _ hz)) with e | hz'
      · exact absurd e (nm z hz)
      · exact hz'
/-- places of small fractions ascend with them -/
theorem place_lt {a b : Rate} {F : Int} (ha : 0 < a.2) (hb : 0 < b.2) (hF : a.2 * b.2 ≤ F) (h : val a < val b) : a.1 * F / a.2 < b.1 * F / b.2 := by
  have h1 : a.1 * b.2 < b.1 * a.2 := by
    have := (val_lt ha hb).mp h
    exact of_decide_eq_true this
  -- b.1 F / b.2 is at least a.1 F / a.2 + 1
  have hb2 : (a.1 * F / a.2 + 1) * b.2 ≤ b.1 * F := by
    have k1 : a.1 * F / a.2 * a.2 ≤ a.1 * F := Int.ediv_mul_le _ (by omega)
    have hF0 : 0 ≤ F := Int.le_trans (Int.mul_nonneg (Int.le_of_lt ha) (Int.le_of_lt hb)) hF
    -- multiply by a.2
    have k2 : (a.1 * F / a.2 + 1) * b.2 * a.2 ≤ b.1 * F * a.2 := by
      have e1 : (a.1 * F / a.2 + 1) * b.2 * a.2 = a.1 * F / a.2 * a.2 * b.2 + a.2 * b.2 := by grind
      have k3 : a.1 * F / a.2 * a.2 * b.2 ≤ a.1 * F * b.2 := Int.mul_le_mul_of_nonneg_right k1 (Int.le_of_lt hb)
      have k4 : (a.1 * b.2 + 1) * F ≤ b.1 * a.2 * F := Int.mul_le_mul_of_nonneg_right (by omega) hF0
      have e2 : (a.1 * b.2 + 1) * F = a.1 * F * b.2 + F := by grind
      have e3 : b.1 * F * a.2 = b.1 * a.2 * F := by grind
      omega
    exact Int.le_of_mul_le_mul_right k2 ha
  have := (Int.le_ediv_iff_mul_le hb).mpr hb2
  omega
end AM
end Sec_M2
section Sec_M3
/-! Bounds: numbers of deeds at rates between 1/4 and 4. -/
namespace AM
/-- between 1/4 and 4 -/
structure Rng (r : Rate) : Prop where
  p : 0 < r.1
  q : 0 < r.2
  lo : r.2 ≤ 4 * r.1
  hi : r.1 ≤ 4 * r.2
theorem rng_fall {b : Bool} {r : Rate} (h : Rng r) : Rng (fall b r) := by
  cases b
  · exact ⟨h.q, h.p, h.hi, h.lo⟩
  · exact h
theorem mul_ediv_le {a b : Int} (hb : 0 < b) : a / b * b ≤ a := Int.ediv_mul_le a (by omega)
theorem le_of_mul {x N b : Int} (hb : 0 < b) (h : x * b ≤ N * b) : x ≤ N := Int.le_of_mul_le_mul_right h hb
theorem lt_of_mul {x N b : Int} (hb : 0 < b) (h : x * b < N * b) : x < N := Int.lt_of_mul_lt_mul_right h (Int.le_of_lt hb)
theorem rounded_nn {m : Mode} {s t b : Int} (hs : 0 < s) (hb : 0 < b) (ht : 0 ≤ t) : 0 ≤ rounded m s t b := by
  have hbs : 0 < b * s := Int.mul_pos hb hs
  have h2bs : 0 < 2 * b * s := Int.mul_pos (by omega) hs
  cases m with
  | down => exact Int.mul_nonneg (Int.ediv_nonneg ht (Int.le_of_lt hbs)) (Int.le_of_lt hs)
  | up => exact Int.mul_nonneg (Int.ediv_nonneg (by omega) (Int.le_of_lt hbs)) (Int.le_of_lt hs)
  | near => exact Int.mul_nonneg (Int.ediv_nonneg (by omega) (Int.le_of_lt h2bs)) (Int.le_of_lt hs)
  | nine =>
    have h1 : 1 ≤ (t + b + b * s - 1) / (b * s) := (Int.le_ediv_iff_mul_le hbs).mpr (by omega)
    have h2 : 1 * s ≤ (t + b + b * s - 1) / (b * s) * s := Int.mul_le_mul_of_nonneg_right h1 (Int.le_of_lt hs)
    show 0 ≤ (t + b + b * s - 1) / (b * s) * s - 1
    omega
theorem rounded_le {m : Mode} {s t b N : Int} (hs : 0 < s) (hb : 0 < b) (ht : t ≤ N * b) : rounded m s t b ≤ N + s := by
  have hbs : 0 < b * s := Int.mul_pos hb hs
  have h2bs : 0 < 2 * b * s := Int.mul_pos (by omega) hs
  cases m with
  | down =>
    have h := mul_ediv_le (a := t) hbs
    show t / (b * s) * s ≤ N + s
    generalize t / (b * s) = q at h
    have : q * s * b ≤ N * b := by
      have e : q * (b * s) = q * s * b := by grind
      omega
    have := le_of_mul hb this
    omega
  | up =>
    have h := mul_ediv_le (a := t + b * s - 1) hbs
    show (t + b * s - 1) / (b * s) * s ≤ N + s
    generalize (t + b * s - 1) / (b * s) = q at h
    have : q * s * b < (N + s) * b := by
      have e : q * (b * s) = q * s * b := by grind
      have e2 : (N + s) * b = N * b + b * s := by grind
      omega
    have := lt_of_mul hb this
    omega
  | near =>
    have h := mul_ediv_le (a := 2 * t + b * s) h2bs
    show (2 * t + b * s) / (2 * b * s) * s ≤ N + s
    generalize (2 * t + b * s) / (2 * b * s) = q at h
    have : 2 * (q * s) * b ≤ (2 * N + s) * b := by
      have e : q * (2 * b * s) = 2 * (q * s) * b := by grind
      have e2 : (2 * N + s) * b = 2 * (N * b) + b * s := by grind
      omega
    have := le_of_mul hb this
    omega
  | nine =>
    have h := mul_ediv_le (a := t + b + b * s - 1) hbs
    show (t + b + b * s - 1) / (b * s) * s - 1 ≤ N + s
    generalize (t + b + b * s - 1) / (b * s) = q at h
    have : q * s * b < (N + 1 + s) * b := by
      have e : q * (b * s) = q * s * b := by grind
      have e2 : (N + 1 + s) * b = N * b + b + b * s := by grind
      omega
    have := lt_of_mul hb this
    omega
structure RuB (u : Ru) : Prop where
  s0 : 0 < u.s
  s1 : u.s ≤ 10
  c0 : 0 ≤ u.c
  k0 : 0 ≤ u.k
  k1 : u.k ≤ 50
theorem gives_bd {u : Ru} {bk : Bool} {n : Int} {r : Rate} (hu : RuB u) (hn : 1 ≤ n ∧ n ≤ 12) (hr : Rng r) : 0 ≤ gives u bk n r ∧ gives u bk n r ≤ 60 := by
  have hf := rng_fall (b := bk) hr
  obtain ⟨s0, s1, c0, k0, k1⟩ := hu
  have hb : 0 < (fall bk r).2 * 100 := by have := hf.q; omega
  have h1 : n * (fall bk r).1 * (100 - u.k) ≤ 48 * ((fall bk r).2 * 100) := by
    have a1 : n * (fall bk r).1 ≤ 12 * (4 * (fall bk r).2) := Int.mul_le_mul hn.2 hf.hi (Int.le_of_lt hf.p) (by decide)
    have a0 : 0 ≤ n * (fall bk r).1 := Int.mul_nonneg (by omega) (Int.le_of_lt hf.p)
    have a2 : n * (fall bk r).1 * (100 - u.k) ≤ 12 * (4 * (fall bk r).2) * 100 := Int.mul_le_mul a1 (by omega) (by omega) (by have := hf.q; omega)
    omega
  have := rounded_le (m := u.m) s0 hb h1
  unfold gives
  omega
theorem tag_bd {s : Shop} {p : Int} {r : Rate} (hs : 0 < s.1.s ∧ s.1.s ≤ 10) (hp : 1 ≤ p ∧ p ≤ 12) (hr : Rng r) : 0 ≤ tag s p r ∧ tag s p r ≤ 60 := by
  have h0 : 0 ≤ p * r.2 := Int.mul_nonneg (by omega) (Int.le_of_lt hr.q)
  have h1 : p * r.2 ≤ 48 * r.1 := by
    have : p * r.2 ≤ 12 * (4 * r.1) := Int.mul_le_mul hp.2 hr.lo (Int.le_of_lt hr.q) (by decide)
    omega
  have := rounded_le (m := s.1.m) hs.1 hr.p h1
  have := rounded_nn (m := s.1.m) hs.1 hr.p h0
  unfold tag
  omega
theorem change_bd {s : Shop} {x : Int} {r : Rate} (hs : 0 < s.2.1.s ∧ s.2.1.s ≤ 10) (hx : 0 ≤ x ∧ x ≤ 12) (hr : Rng r) : 0 ≤ change s x r ∧ change s x r ≤ 60 := by
  have h0 : 0 ≤ x * r.1 := Int.mul_nonneg (by omega) (Int.le_of_lt hr.p)
  have h1 : x * r.1 ≤ 48 * r.2 := by
    have : x * r.1 ≤ 12 * (4 * r.2) := Int.mul_le_mul hx.2 hr.hi (Int.le_of_lt hr.p) (by decide)
    omega
  have := rounded_le (m := s.2.1.m) hs.1 hr.q h1
  have := rounded_nn (m := s.2.1.m) hs.1 hr.q h0
  unfold change
  omega
/-- what a deed asks of the world -/
def DB (W : Wd) : Deed → Prop
  | .ex bk i n => RuB (W.rule i bk) ∧ 1 ≤ n ∧ n ≤ 12
  | .over i p m => (0 < (W.shop i).1.s ∧ (W.shop i).1.s ≤ 10) ∧ (0 < (W.shop i).2.1.s ∧ (W.shop i).2.1.s ≤ 10) ∧ (1 ≤ p ∧ p ≤ 12) ∧ 1 ≤ m ∧ m ≤ 12
  | .buy i p _ => (0 < (W.shop i).1.s ∧ (W.shop i).1.s ≤ 10) ∧ 1 ≤ p ∧ p ≤ 12
  | .ret i p _ => (0 < (W.shop i).1.s ∧ (W.shop i).1.s ≤ 10) ∧ 1 ≤ p ∧ p ≤ 12
theorem told_bd {W : Wd} {d : Deed} {r : Rate} {x : Int} (hd : DB W d) (hr : Rng r) (h : told W d r = some x) : 0 ≤ x ∧ x ≤ 60 := by
  cases d with
  | ex bk i n =>
    cases h
    exact gives_bd hd.1 hd.2 hr
  | over i p m =>
    obtain ⟨h1, h2, h3, h4⟩ := hd
    have ht := tag_bd h1 h3 hr
    have h' : (if m < tag (W.shop i) p r then none else some (change (W.shop i) (m - tag (W.shop i) p r) r)) = some x := h
    split at h'
    · cases h'
    · cases h'
      exact change_bd h2 (by omega) hr
  | buy i p home =>
    have ht := tag_bd hd.1 hd.2 hr
    have hp := hd.2
    unfold told at h
    cases h
    split <;> omega
  | ret i p home =>
    have ht := tag_bd hd.1 hd.2 hr
    have hp := hd.2
    unfold told at h
    cases h
    split <;> omega
theorem effect_bd {W : Wd} {d : Deed} {x : Int} (hd : DB W d) (hx : 0 ≤ x ∧ x ≤ 60) : -60 ≤ (effect d x).1 ∧ (effect d x).1 ≤ 60 ∧ -60 ≤ (effect d x).2 ∧ (effect d x).2 ≤ 60 := by
  cases d with
  | ex bk i n =>
    obtain ⟨_, h1, h2⟩ := hd
    cases bk <;> (simp only [effect]; omega)
  | over i p m =>
    obtain ⟨_, _, _, h1, h2⟩ := hd
    simp only [effect]
    omega
  | buy i p home => cases home <;> (simp [effect]; omega)
  | ret i p home => cases home <;> (simp [effect]; omega)
theorem behind_some {st st' : Stand} {d : Deed} {x : Int} (h : behind st d (some x) = some st') : st' = ⟨st.home + (effect d x).1, st.far + (effect d x).2, newThings d st.things⟩ ∧ ¬ (st.home < (need d x).1 ∨ st.far < (need d x).2 ∨ d.lacks st.things = true) := by
  have h' : (if st.home < (need d x).1 ∨ st.far < (need d x).2 ∨ d.lacks st.things = true then none else some (⟨st.home + (effect d x).1, st.far + (effect d x).2, newThings d st.things⟩ : Stand)) = some st' := h
  split at h'
  · cases h'
  · rename_i c
    cases h'
    exact ⟨rfl, c⟩
theorem ledGo_bd {W : Wd} {r : Rate} (hr : Rng r) : ∀ (ds : List Deed) (i : Nat) (st : Stand) (found : List Int), (∀ d ∈ ds, DB W d) →
    -(60 * (ds.length : Int)) ≤ (ledGo W r i st found ds).1.home - st.home ∧ (ledGo W r i st found ds).1.home - st.home ≤ 60 * (ds.length : Int) ∧
    -(60 * (ds.length : Int)) ≤ (ledGo W r i st found ds).1.far - st.far ∧ (ledGo W r i st found ds).1.far - st.far ≤ 60 * (ds.length : Int)
  | [], i, st, found, _ => by simp [ledGo]
  | d :: ds, i, st, found, h => by
    have hd := h d List.mem_cons_self
    have h0 : ((d :: ds).length : Int) = ds.length + 1 := by simp
    unfold ledGo
    cases ht : told W d r with
    | none => dsimp only; omega
    | some x =>
      dsimp only
      cases hb : behind st d (some x) with
      | none => dsimp only; omega
      | some st' =>
        dsimp only
        have hx := told_bd hd hr ht
        have he := effect_bd hd hx
        have ih := ledGo_bd hr ds (i + 1) st' (found ++ [x]) fun y hy => h y (List.mem_cons_of_mem _ hy)
        have e := (behind_some hb).1
        have e1 : st'.home = st.home + (effect d x).1 := by rw [e]
        have e2 : st'.far = st.far + (effect d x).2 := by rw [e]
        omega
theorem costs_bd {W : Wd} {ds : List Deed} {p : Int × Int} {r : Rate} (hr : Rng r) (h : ∀ d ∈ ds, DB W d) (hl : ds.length ≤ 16) : (-960 ≤ (costs W ds p r).1 ∧ (costs W ds p r).1 ≤ 960) ∧ -960 ≤ (costs W ds p r).2 ∧ (costs W ds p r).2 ≤ 960 := by
  have := ledGo_bd hr ds 0 (purse0 p) [] h
  have e : ∀ q : Stand × List Int × Option Nat, q = ledGo W r 0 (purse0 p) [] ds → led W (purse0 p) ds r = q := fun q h => h ▸ rfl
  unfold costs left
  rw [e _ rfl]
  have h1 : (purse0 p).home = p.1 := rfl
  have h2 : (purse0 p).far = p.2 := rfl
  dsimp only
  omega
end AM
end Sec_M3
section Sec_M4
/-! The law's rounding is the program's. -/
namespace AM
theorem low_of {t n s : Int} : s * (t / n) = t / n * s := Int.mul_comm _ _
theorem up_ediv {t n : Int} (hn : 0 < n) : (t + n - 1) / n = t / n + (if 0 < t % n then 1 else 0) := by
  have h1 := Int.mul_ediv_add_emod t n
  have h2 := Int.emod_nonneg t (b := n) (by omega)
  have h3 := Int.emod_lt_of_pos t hn
  have e : t + n - 1 = (t % n + n - 1) + n * (t / n) := by omega
  rw [e, Int.add_mul_ediv_left _ _ (by omega)]
  split
  · have : (t % n + n - 1) / n = 1 := by
      rw [show t % n + n - 1 = (t % n - 1) + n * 1 by omega, Int.add_mul_ediv_left _ _ (by omega), Int.ediv_eq_zero_of_lt (by omega) (by omega)]
      rfl
    omega
  · have : (t % n + n - 1) / n = 0 := Int.ediv_eq_zero_of_lt (by omega) (by omega)
    omega
theorem near_ediv {t n : Int} (hn : 0 < n) : (2 * t + n) / (2 * n) = t / n + (if n ≤ 2 * (t % n) then 1 else 0) := by
  have h1 := Int.mul_ediv_add_emod t n
  have h2 := Int.emod_nonneg t (b := n) (by omega)
  have h3 := Int.emod_lt_of_pos t hn
  have e : 2 * t + n = (2 * (t % n) + n) + (2 * n) * (t / n) := by
    have : (2 * n) * (t / n) = 2 * (n * (t / n)) := Int.mul_assoc _ _ _
    omega
  rw [e, Int.add_mul_ediv_left _ _ (by omega)]
  split
  · have : (2 * (t % n) + n) / (2 * n) = 1 := by
      rw [show 2 * (t % n) + n = (2 * (t % n) - n) + (2 * n) * 1 by omega, Int.add_mul_ediv_left _ _ (by omega), Int.ediv_eq_zero_of_lt (by omega) (by omega)]
      rfl
    omega
  · have : (2 * (t % n) + n) / (2 * n) = 0 := Int.ediv_eq_zero_of_lt (by omega) (by omega)
    omega
theorem rest_of {t b s : Int} : t - s * (t / (s * b)) * b = t % (s * b) := by
  have h := Int.mul_ediv_add_emod t (s * b)
  have : s * (t / (s * b)) * b = s * b * (t / (s * b)) := by
    rw [Int.mul_assoc, Int.mul_comm (t / (s * b)) b, ← Int.mul_assoc]
  omega
theorem law_down {s t b : Int} : s * (t / (s * b)) = rounded .down s t b := by
  unfold rounded
  rw [Int.mul_comm b s, Int.mul_comm]
theorem law_up {s t b : Int} (hs : 0 < s) (hb : 0 < b) : (if 0 < t % (s * b) then s * (t / (s * b)) + s else s * (t / (s * b))) = rounded .up s t b := by
  have hn : 0 < s * b := Int.mul_pos hs hb
  unfold rounded
  rw [Int.mul_comm b s, show t + s * b - 1 = t + (s * b) - 1 from rfl]
  dsimp only
  rw [up_ediv hn, Int.add_mul, Int.mul_comm s (t / (s * b))]
  split
  · rw [Int.one_mul]
  · rw [Int.zero_mul, Int.add_zero]
theorem law_near {s t b : Int} (hs : 0 < s) (hb : 0 < b) : (if s * b ≤ 2 * (t % (s * b)) then s * (t / (s * b)) + s else s * (t / (s * b))) = rounded .near s t b := by
  have hn : 0 < s * b := Int.mul_pos hs hb
  unfold rounded
  dsimp only
  rw [Int.mul_assoc 2 b s, Int.mul_comm b s]
  rw [near_ediv hn, Int.add_mul, Int.mul_comm s (t / (s * b))]
  split
  · rw [Int.one_mul]
  · rw [Int.zero_mul, Int.add_zero]
/-- the number of steps of the nine -/
def nineK (s t b : Int) : Int := (t + b + b * s - 1) / (b * s)
theorem nine_lt {s t b k : Int} (hs : 0 < s) (hb : 0 < b) : k < nineK s t b ↔ (k * s - 1) * b < t := by
  have hn : 0 < b * s := Int.mul_pos hb hs
  unfold nineK
  rw [Int.lt_iff_add_one_le, Int.le_ediv_iff_mul_le hn]
  have e1 : (k + 1) * (b * s) = k * s * b + b * s := by
    rw [Int.add_mul, Int.one_mul, Int.mul_comm b s, ← Int.mul_assoc]
  have e2 : (k * s - 1) * b = k * s * b - b := by rw [Int.sub_mul, Int.one_mul]
  rw [e1, e2]
  omega
theorem nine_pos {s t b : Int} (hs : 0 < s) (hb : 0 < b) (ht : 0 ≤ t) : 1 ≤ nineK s t b := by
  have h := (nine_lt (t := t) (k := 0) hs hb).mpr (by rw [Int.zero_mul, Int.sub_mul, Int.one_mul, Int.zero_mul]; omega)
  omega
theorem nine_eq {s t b : Int} : nineK s t b * s - 1 = rounded .nine s t b := rfl
end AM
end Sec_M4
section Sec_M5
/-! The law's edges are the program's. -/
namespace AM
def vb (m : Mode) : Int := match m with
  | .near => 2
  | _ => 1
def off (m : Mode) (s : Int) : Int := match m with
  | .near => s
  | .nine => 1
  | _ => 0
/-- the k-th value of a rounding, over vb -/
def vt (m : Mode) (s k : Int) : Int := vb m * s * k - off m s
def lawG (m : Mode) (s top : Int) (back : Bool) (k : Int) : Rate := if back then lowest (vt m s k * 100) (vb m * top) else lowest (vb m * top) (vt m s k * 100)
def lawN (m : Mode) (s n : Int) : Int := ((4 * n + s) * vb m + off m s) / (vb m * s)
def lawIn (r : Rate) : Bool := decide (r.2 ≤ 4 * r.1) && decide (r.1 ≤ 4 * r.2)
def lawL (m : Mode) (s n top : Int) (back : Bool) : List Rate := ((List.range (lawN m s n).toNat).map fun (i : Nat) => lawG m s top back (1 + (i : Int))).filter lawIn
theorem vb_pos (m : Mode) : 0 < vb m ∧ vb m ≤ 2 := by cases m <;> decide
theorem off_bd {m : Mode} {s : Int} (hs : 0 < s) : 0 ≤ off m s ∧ off m s ≤ vb m * s := by
  cases m <;> simp only [off, vb] <;> omega
theorem vt_pos {m : Mode} {s k : Int} (hs : 0 < s) (hk : 1 ≤ k) (h9 : m = .nine → 1 < s) : 0 < vt m s k := by
  have h1 : s * 1 ≤ s * k := Int.mul_le_mul_of_nonneg_left hk (by omega)
  cases m with
  | near => simp only [vt, vb, off]; rw [Int.mul_assoc]; omega
  | nine => have := h9 rfl; simp only [vt, vb, off]; rw [Int.mul_assoc]; omega
  | down => simp only [vt, vb, off]; rw [Int.mul_assoc]; omega
  | up => simp only [vt, vb, off]; rw [Int.mul_assoc]; omega
theorem rat_eq {a b c d : Int} (hb : 0 < b) (hd : 0 < d) (h : a * d = c * b) : (a : Rat) / (b : Rat) = (c : Rat) / (d : Rat) := (val_eq (a := (a, b)) (b := (c, d)) hb hd).mpr h
theorem lowest_eq {a b c d : Int} (ha : 0 < a) (hb : 0 < b) (hc : 0 < c) (hd : 0 < d) (h : a * d = c * b) : lowest a b = lowest c d := by
  obtain ⟨r1, v1⟩ := red_lowest ha hb
  obtain ⟨r2, v2⟩ := red_lowest hc hd
  exact red_eq r1 r2 (by rw [v1, v2, rat_eq hb hd h])
theorem lowest_mul {t b : Int} (hb : 0 < b) : (lowest t b).1 * b = t * (lowest t b).2 := by
  have d1 : gcdI t b ∣ t := Int.gcd_dvd_left (a := t) (b := b)
  have d2 : gcdI t b ∣ b := Int.gcd_dvd_right (a := t) (b := b)
  have e1 := Int.ediv_mul_cancel d1
  have e2 := Int.ediv_mul_cancel d2
  show t / gcdI t b * b = t * (b / gcdI t b)
  generalize gcdI t b = g at e1 e2
  generalize t / g = u at e1
  generalize b / g = v at e2
  rw [← e1, ← e2]
  grind
theorem edge_vt {m : Mode} {s k : Int} (hs : 0 < s) (hk : 1 ≤ k) (h9 : m = .nine → 1 < s) : 0 < (edge m s k).1 ∧ 0 < (edge m s k).2 ∧ (edge m s k).1 * vb m = vt m s k * (edge m s k).2 := by
  have hp := vt_pos hs hk h9
  cases m with
  | near =>
    have e : vt .near s k = (2 * k - 1) * s := by simp only [vt, vb, off]; grind
    rw [e] at hp
    have r := (red_lowest hp (show (0 : Int) < 2 by decide)).1
    refine ⟨r.p, r.q, ?_⟩
    rw [e]
    exact lowest_mul (t := (2 * k - 1) * s) (b := 2) (by decide)
  | nine =>
    simp only [edge, vt, vb, off] at hp ⊢
    have : k * s = 1 * s * k := by grind
    omega
  | down =>
    simp only [edge, vt, vb, off] at hp ⊢
    have : k * s = 1 * s * k := by grind
    omega
  | up =>
    simp only [edge, vt, vb, off] at hp ⊢
    have : k * s = 1 * s * k := by grind
    omega
theorem turned_lawG {m : Mode} {s k top : Int} {back : Bool} (hs : 0 < s) (hk : 1 ≤ k) (h9 : m = .nine → 1 < s) (ht : 0 < top) : turned back top (edge m s k) = lawG m s top back k := by
  have hp := vt_pos hs hk h9
  obtain ⟨h1, h2, h3⟩ := edge_vt hs hk h9
  have hv := (vb_pos m).1
  have p1 : 0 < (edge m s k).2 * top := Int.mul_pos h2 ht
  have p2 : 0 < vb m * top := Int.mul_pos hv ht
  unfold turned lawG
  generalize edge m s k = e at *
  generalize vt m s k = v at *
  generalize vb m = b at *
  cases back with
  | true => exact lowest_eq (by omega) p1 (by omega) p2 (by grind)
  | false => exact lowest_eq (by rw [Int.mul_comm]; exact p1) (by omega) p2 (by omega) (by grind)
theorem lowest_in {t b : Int} (ht : 0 < t) (hb : 0 < b) : lawIn (lowest t b) = true ↔ b ≤ 4 * t ∧ t ≤ 4 * b := by
  obtain ⟨r, _⟩ := red_lowest ht hb
  have e := lowest_mul (t := t) (b := b) hb
  have hp := r.p
  have hq := r.q
  unfold lawIn
  generalize lowest t b = l at *
  rw [Bool.and_eq_true, decide_eq_true_iff, decide_eq_true_iff]
  constructor
  · rintro ⟨h1, h2⟩
    constructor
    · refine Int.le_of_mul_le_mul_left (a := l.1) ?_ hp
      have : l.2 * t ≤ (4 * l.1) * t := Int.mul_le_mul_of_nonneg_right h1 (by omega)
      grind
    · refine Int.le_of_mul_le_mul_left (a := l.2) ?_ hq
      have : l.1 * b ≤ (4 * l.2) * b := Int.mul_le_mul_of_nonneg_right h2 (by omega)
      grind
  · rintro ⟨h1, h2⟩
    constructor
    · refine Int.le_of_mul_le_mul_left (a := t) ?_ ht
      have : l.1 * b ≤ l.1 * (4 * t) := Int.mul_le_mul_of_nonneg_left h1 (by omega)
      grind
    · refine Int.le_of_mul_le_mul_left (a := b) ?_ hb
      have : l.2 * t ≤ l.2 * (4 * b) := Int.mul_le_mul_of_nonneg_left h2 (by omega)
      grind
theorem within_in {l : List Rate} {r : Rate} : r ∈ within l ↔ r ∈ l ∧ lawIn r = true := by
  have e : (!isLess r LOW && !isLess HIGH r) = lawIn r := by
    unfold isLess LOW HIGH lawIn
    rw [← decide_not, ← decide_not]
    congr 1 <;> (refine decide_eq_decide.mpr ?_; dsimp only; omega)
  unfold within
  rw [List.mem_filter, e]
theorem le_lawN {m : Mode} {s n k : Int} (hs : 0 < s) : k ≤ lawN m s n ↔ vt m s k ≤ (4 * n + s) * vb m := by
  have hv := (vb_pos m).1
  have hp : 0 < vb m * s := Int.mul_pos hv hs
  unfold lawN vt
  rw [Int.le_ediv_iff_mul_le hp, show k * (vb m * s) = vb m * s * k from Int.mul_comm _ _]
  omega
theorem lawN_nn {m : Mode} {s n : Int} (hs : 0 < s) (hn : 0 ≤ n) : 0 ≤ lawN m s n := by
  have hv := (vb_pos m).1
  have ho := off_bd (m := m) hs
  exact Int.ediv_nonneg (by have : 0 ≤ (4 * n + s) * vb m := Int.mul_nonneg (by omega) (by omega); omega) (Int.le_of_lt (Int.mul_pos hv hs))
theorem lawG_in {m : Mode} {s n cut k : Int} {back : Bool} (hs : 0 < s) (hk : 1 ≤ k) (h9 : m = .nine → 1 < s) (hn : 0 < n) (hc : 0 ≤ cut ∧ cut ≤ 50) (h : lawIn (lawG m s (n * (100 - cut)) back k) = true) : vt m s k ≤ 4 * n * vb m := by
  have hp := vt_pos hs hk h9
  have hv := (vb_pos m).1
  have ht : 0 < n * (100 - cut) := Int.mul_pos hn (by omega)
  have p2 : 0 < vb m * (n * (100 - cut)) := Int.mul_pos hv ht
  have h100 : n * (100 - cut) ≤ n * 100 := Int.mul_le_mul_of_nonneg_left (by omega) (by omega)
  have hb : vb m * (n * (100 - cut)) ≤ vb m * (n * 100) := Int.mul_le_mul_of_nonneg_left h100 (by omega)
  have key : vt m s k * 100 ≤ 4 * (vb m * (n * (100 - cut))) := by
    unfold lawG at h
    cases back with
    | true => exact ((lowest_in (by omega) p2).mp h).2
    | false => exact ((lowest_in p2 (by omega)).mp h).1
  have e1 : vb m * (n * 100) = n * vb m * 100 := by grind
  have e2 : 4 * n * vb m = 4 * (n * vb m) := by grind
  omega
theorem lawL_mem {u : Ru} {n : Int} {back : Bool} (hs : 0 < u.s) (h9 : u.m = .nine → 1 < u.s) (hn : 0 < n) (hc : 0 ≤ u.k ∧ u.k ≤ 50) (r : Rate) :
    r ∈ lawL u.m u.s n (n * (100 - u.k)) back ↔ r ∈ ruleEdges u back n := by
  have ht : 0 < n * (100 - u.k) := Int.mul_pos hn (by omega)
  have hv := (vb_pos u.m)
  unfold ruleEdges lawL
  rw [within_in, List.mem_filter]
  constructor
  · rintro ⟨h1, h2⟩
    obtain ⟨i, hi, rfl⟩ := List.mem_map.mp h1
    have hi := List.mem_range.mp hi
    refine ⟨List.mem_map.mpr ⟨edge u.m u.s (1 + (i : Int)), List.mem_filter.mpr ⟨?_, decide_eq_true (edge_vt hs (by omega) h9).1⟩, turned_lawG hs (by omega) h9 ht⟩, h2⟩
    refine List.mem_map.mpr ⟨1 + (i : Int), ?_, rfl⟩
    have hl := lawG_in hs (by omega) h9 hn hc h2
    have hle : 1 + (i : Int) ≤ (4 * n + u.s) / u.s + 1 := by
      have h3 : 1 + (i : Int) - 1 ≤ (4 * n + u.s) / u.s := by
        rw [Int.le_ediv_iff_mul_le hs]
        have ho := (off_bd (m := u.m) hs).2
        have h4 : vb u.m * (u.s * (1 + (i : Int)) - u.s) ≤ vb u.m * (4 * n) := by
          have e1 : vb u.m * (u.s * (1 + (i : Int)) - u.s) = vt u.m u.s (1 + (i : Int)) + off u.m u.s - vb u.m * u.s := by unfold vt; grind
          have e2 : vb u.m * (4 * n) = 4 * n * vb u.m := Int.mul_comm _ _
          omega
        have h5 := Int.le_of_mul_le_mul_left h4 hv.1
        have e3 : (1 + (i : Int) - 1) * u.s = u.s * (1 + (i : Int)) - u.s := by grind
        omega
      omega
    unfold oneTo
    exact List.mem_map.mpr ⟨i, List.mem_range.mpr (by omega), rfl⟩
  · rintro ⟨h1, h2⟩
    obtain ⟨e, he, rfl⟩ := List.mem_map.mp h1
    obtain ⟨he, hpos⟩ := List.mem_filter.mp he
    obtain ⟨k, hk, rfl⟩ := List.mem_map.mp he
    unfold oneTo at hk
    obtain ⟨i, hi, rfl⟩ := List.mem_map.mp hk
    rw [turned_lawG hs (by omega) h9 ht] at h2 ⊢
    refine ⟨List.mem_map.mpr ⟨i, List.mem_range.mpr ?_, rfl⟩, h2⟩
    have hl := lawG_in hs (by omega) h9 hn hc h2
    have := (le_lawN (m := u.m) (s := u.s) (n := n) (k := 1 + (i : Int)) hs).mpr (by
      have : (4 * n + u.s) * vb u.m = 4 * n * vb u.m + u.s * vb u.m := Int.add_mul _ _ _
      have : 0 < u.s * vb u.m := Int.mul_pos hs hv.1
      omega)
    omega
theorem lawN_le {m : Mode} {s n : Int} (hs : 0 < s) (hn : 0 ≤ n) (hn2 : n ≤ 12) (hs2 : s ≤ 10) : lawN m s n ≤ 60 := by
  refine Int.not_lt.mp fun h => ?_
  have h := (le_lawN (m := m) (s := s) (n := n) (k := 61) hs).mp (by omega)
  have hv := vb_pos m
  have ho := (off_bd (m := m) hs).2
  unfold vt at h
  have e1 : (4 * n + s) * vb m = vb m * (4 * n + s) := Int.mul_comm _ _
  have e2 : vb m * s * 61 = vb m * (s * 61) := Int.mul_assoc _ _ _
  have h2 : vb m * (s * 61) ≤ vb m * (4 * n + 2 * s) := by
    have e3 : vb m * (4 * n + 2 * s) = vb m * (4 * n + s) + vb m * s := by grind
    omega
  have := Int.le_of_mul_le_mul_left h2 hv.1
  omega
end AM
end Sec_M5
section Sec_M6
/-! Between two different numbers lies an edge. -/
namespace AM
theorem ceil_le {t D k : Int} (hD : 0 < D) : (t + D - 1) / D ≤ k ↔ t ≤ k * D := by
  rw [← Int.lt_add_one_iff, Int.ediv_lt_iff_lt_mul hD, Int.add_mul, Int.one_mul]
  omega
theorem cross {a s b b' t t' : Int} (hb : 0 < b) (hb' : 0 < b') (h : t * b' ≤ t' * b) (h1 : a * (b * s) ≤ t) : a * (b' * s) ≤ t' := by
  refine Int.le_of_mul_le_mul_right (a := b) ?_ hb
  have h2 : a * (b * s) * b' ≤ t * b' := Int.mul_le_mul_of_nonneg_right h1 (by omega)
  have e : a * (b' * s) * b = a * (b * s) * b' := by grind
  omega
theorem cross' {a s b b' t t' : Int} (hb : 0 < b) (hb' : 0 < b') (h : t * b' ≤ t' * b) (h1 : t' ≤ a * (b' * s)) : t ≤ a * (b * s) := by
  refine Int.le_of_mul_le_mul_right (a := b') ?_ hb'
  have h2 : t' * b ≤ a * (b' * s) * b := Int.mul_le_mul_of_nonneg_right h1 (by omega)
  have e : a * (b' * s) * b = a * (b * s) * b' := by grind
  omega
theorem jump {m : Mode} {s t b t' b' : Int} (hs : 0 < s) (hb : 0 < b) (hb' : 0 < b') (ht : 0 < t) (h : t * b' ≤ t' * b) (hne : rounded m s t b ≠ rounded m s t' b') :
    ∃ k, 1 ≤ k ∧ t * vb m ≤ vt m s k * b ∧ vt m s k * b' ≤ t' * vb m := by
  have hD : 0 < b * s := Int.mul_pos hb hs
  have hD' : 0 < b' * s := Int.mul_pos hb' hs
  cases m with
  | down =>
    have hq : t / (b * s) ≠ t' / (b' * s) := fun z => hne (by unfold rounded; dsimp only; rw [z])
    have h1 : t / (b * s) * (b * s) ≤ t := Int.ediv_mul_le t (by omega)
    have h2 : t / (b * s) ≤ t' / (b' * s) := (Int.le_ediv_iff_mul_le hD').mpr (cross hb hb' h h1)
    have h3 : (t / (b * s) + 1) * (b' * s) ≤ t' := (Int.le_ediv_iff_mul_le hD').mp (by omega)
    have h4 : t < (t / (b * s) + 1) * (b * s) := Int.lt_ediv_add_one_mul_self t hD
    have h5 : 0 ≤ t / (b * s) := Int.ediv_nonneg (by omega) (by omega)
    refine ⟨t / (b * s) + 1, by omega, ?_, ?_⟩
    · have e : vt .down s (t / (b * s) + 1) * b = (t / (b * s) + 1) * (b * s) := by simp only [vt, vb, off]; grind
      simp only [vb] at *
      omega
    · have e : vt .down s (t / (b * s) + 1) * b' = (t / (b * s) + 1) * (b' * s) := by simp only [vt, vb, off]; grind
      simp only [vb] at *
      omega
  | up =>
    have hq : (t + b * s - 1) / (b * s) ≠ (t' + b' * s - 1) / (b' * s) := fun z => hne (by unfold rounded; dsimp only; rw [z])
    have c1 := (ceil_le (t := t) (k := (t + b * s - 1) / (b * s)) hD).mp (Int.le_refl _)
    have c2 := (ceil_le (t := t') (k := (t' + b' * s - 1) / (b' * s)) hD').mp (Int.le_refl _)
    have h2 := (ceil_le (t := t) hD).mpr (cross' hb hb' h c2)
    have c3 : ¬ t' ≤ ((t + b * s - 1) / (b * s)) * (b' * s) := fun z => by
      have := (ceil_le (t := t') hD').mpr z
      omega
    generalize (t + b * s - 1) / (b * s) = c at *
    have hc : 1 ≤ c := by
      refine Int.not_lt.mp fun z => ?_
      have : c * (b * s) ≤ 0 * (b * s) := Int.mul_le_mul_of_nonneg_right (by omega) (by omega)
      omega
    refine ⟨c, hc, ?_, ?_⟩
    · have e : vt .up s c * b = c * (b * s) := by simp only [vt, vb, off]; grind
      simp only [vb] at *
      omega
    · have e : vt .up s c * b' = c * (b' * s) := by simp only [vt, vb, off]; grind
      simp only [vb] at *
      omega
  | near =>
    have hq : (2 * t + b * s) / (2 * b * s) ≠ (2 * t' + b' * s) / (2 * b' * s) := fun z => hne (by unfold rounded; dsimp only; rw [z])
    have e2 : 2 * b * s = 2 * (b * s) := Int.mul_assoc _ _ _
    have e2' : 2 * b' * s = 2 * (b' * s) := Int.mul_assoc _ _ _
    rw [e2, e2'] at hq
    have p1 : 0 < 2 * (b * s) := by omega
    have p2 : 0 < 2 * (b' * s) := by omega
    have iff1 : ∀ k, k ≤ (2 * t + b * s) / (2 * (b * s)) ↔ (2 * k - 1) * (b * s) ≤ 2 * t := fun k => by
      rw [Int.le_ediv_iff_mul_le p1]
      have : k * (2 * (b * s)) = (2 * k - 1) * (b * s) + b * s := by grind
      omega
    have iff2 : ∀ k, k ≤ (2 * t' + b' * s) / (2 * (b' * s)) ↔ (2 * k - 1) * (b' * s) ≤ 2 * t' := fun k => by
      rw [Int.le_ediv_iff_mul_le p2]
      have : k * (2 * (b' * s)) = (2 * k - 1) * (b' * s) + b' * s := by grind
      omega
    have h' : (2 * t) * b' ≤ (2 * t') * b := by
      have a1 : 2 * t * b' = 2 * (t * b') := Int.mul_assoc _ _ _
      have a2 : 2 * t' * b = 2 * (t' * b) := Int.mul_assoc _ _ _
      omega
    have h0 : 0 ≤ (2 * t + b * s) / (2 * (b * s)) := Int.ediv_nonneg (by omega) (by omega)
    generalize (2 * t + b * s) / (2 * (b * s)) = c at *
    generalize (2 * t' + b' * s) / (2 * (b' * s)) = c' at *
    have h2 : c ≤ c' := (iff2 c).mpr (cross hb hb' h' ((iff1 c).mp (Int.le_refl _)))
    have h3 := (iff2 (c + 1)).mp (by omega)
    have h4 : ¬ (2 * (c + 1) - 1) * (b * s) ≤ 2 * t := fun z => by
      have := (iff1 (c + 1)).mpr z
      omega
    refine ⟨c + 1, by omega, ?_, ?_⟩
    · have e : vt .near s (c + 1) * b = (2 * (c + 1) - 1) * (b * s) := by simp only [vt, vb, off]; grind
      simp only [vb] at *
      omega
    · have e : vt .near s (c + 1) * b' = (2 * (c + 1) - 1) * (b' * s) := by simp only [vt, vb, off]; grind
      simp only [vb] at *
      omega
  | nine =>
    have hq : (t + b + b * s - 1) / (b * s) ≠ (t' + b' + b' * s - 1) / (b' * s) := fun z => hne (by unfold rounded; dsimp only; rw [z])
    have c1 := (ceil_le (t := t + b) (k := (t + b + b * s - 1) / (b * s)) hD).mp (Int.le_refl _)
    have c2 := (ceil_le (t := t' + b') (k := (t' + b' + b' * s - 1) / (b' * s)) hD').mp (Int.le_refl _)
    have h' : (t + b) * b' ≤ (t' + b') * b := by
      have a1 : (t + b) * b' = t * b' + b * b' := Int.add_mul _ _ _
      have a2 : (t' + b') * b = t' * b + b * b' := by grind
      omega
    have h2 := (ceil_le (t := t + b) hD).mpr (cross' hb hb' h' c2)
    have c3 : ¬ t' + b' ≤ ((t + b + b * s - 1) / (b * s)) * (b' * s) := fun z => by
      have := (ceil_le (t := t' + b') hD').mpr z
      omega
    generalize (t + b + b * s - 1) / (b * s) = c at *
    have hc : 1 ≤ c := by
      refine Int.not_lt.mp fun z => ?_
      have : c * (b * s) ≤ 0 * (b * s) := Int.mul_le_mul_of_nonneg_right (by omega) (by omega)
      omega
    refine ⟨c, hc, ?_, ?_⟩
    · have e : vt .nine s c * b = c * (b * s) - b := by simp only [vt, vb, off]; grind
      simp only [vb] at *
      omega
    · have e : vt .nine s c * b' = c * (b' * s) - b' := by simp only [vt, vb, off]; grind
      simp only [vb] at *
      omega
end AM
end Sec_M6
section Sec_M7
/-! What is told, and what is left, is the same at rates with no edge between. -/
namespace AM
/-- a ≤ b -/
def rle (a b : Rate) : Prop := a.1 * b.2 ≤ b.1 * a.2
theorem low_le {A B x1 x2 : Int} (hA : 0 < A) (hB : 0 < B) : (x1 * (lowest A B).2 ≤ (lowest A B).1 * x2 ↔ x1 * B ≤ A * x2) ∧ ((lowest A B).1 * x2 ≤ x1 * (lowest A B).2 ↔ A * x2 ≤ x1 * B) := by
  have hg : 0 < gcdI A B := by
    unfold gcdI
    have : Int.gcd A B ≠ 0 := fun h => by have := (Int.gcd_eq_zero_iff.mp h).2; omega
    omega
  have d1 : gcdI A B ∣ A := Int.gcd_dvd_left (a := A) (b := B)
  have d2 : gcdI A B ∣ B := Int.gcd_dvd_right (a := A) (b := B)
  have e1 := Int.ediv_mul_cancel d1
  have e2 := Int.ediv_mul_cancel d2
  show (x1 * (B / gcdI A B) ≤ A / gcdI A B * x2 ↔ _) ∧ (A / gcdI A B * x2 ≤ x1 * (B / gcdI A B) ↔ _)
  generalize gcdI A B = g at *
  generalize A / g = u at *
  generalize B / g = v at *
  subst e1
  subst e2
  have f1 : x1 * (v * g) = x1 * v * g := by grind
  have f2 : u * g * x2 = u * x2 * g := by grind
  rw [f1, f2]
  exact ⟨⟨fun h => Int.mul_le_mul_of_nonneg_right h (by omega), fun h => Int.le_of_mul_le_mul_right h hg⟩, ⟨fun h => Int.mul_le_mul_of_nonneg_right h (by omega), fun h => Int.le_of_mul_le_mul_right h hg⟩⟩
theorem in_between {r e r' : Rate} (hr : Rng r) (hr' : Rng r') (he : Red e) (h1 : rle r e) (h2 : rle e r') : lawIn e = true := by
  unfold rle at h1 h2
  unfold lawIn
  rw [Bool.and_eq_true, decide_eq_true_iff, decide_eq_true_iff]
  have := he.p
  have := he.q
  constructor
  · refine Int.le_of_mul_le_mul_left (a := r.1) ?_ hr.p
    have : e.1 * r.2 ≤ e.1 * (4 * r.1) := Int.mul_le_mul_of_nonneg_left hr.lo (by omega)
    grind
  · refine Int.le_of_mul_le_mul_left (a := r'.2) ?_ hr'.q
    have : r'.1 * e.2 ≤ (4 * r'.2) * e.2 := Int.mul_le_mul_of_nonneg_right hr'.hi (by omega)
    grind
section
variable {m : Mode} {s n cut k : Int} {r r' : Rate}
theorem edge_back (hs : 0 < s) (h9 : m = .nine → 1 < s) (hk : 1 ≤ k) (hn : 0 < n) (hc : 0 ≤ cut ∧ cut ≤ 50) (hr : Rng r) (hr' : Rng r')
    (h1 : r.1 * (vb m * (n * (100 - cut))) ≤ vt m s k * 100 * r.2) (h2 : vt m s k * 100 * r'.2 ≤ r'.1 * (vb m * (n * (100 - cut)))) :
    lawIn (lawG m s (n * (100 - cut)) true k) = true ∧ rle r (lawG m s (n * (100 - cut)) true k) ∧ rle (lawG m s (n * (100 - cut)) true k) r' := by
  have hp := vt_pos hs hk h9
  have hv := (vb_pos m).1
  have ht : 0 < n * (100 - cut) := Int.mul_pos hn (by omega)
  have p2 : 0 < vb m * (n * (100 - cut)) := Int.mul_pos hv ht
  have a1 : rle r (lawG m s (n * (100 - cut)) true k) := (low_le (by omega) p2).1.mpr h1
  have a2 : rle (lawG m s (n * (100 - cut)) true k) r' := (low_le (by omega) p2).2.mpr h2
  exact ⟨in_between hr hr' (red_lowest (by omega) p2).1 a1 a2, a1, a2⟩
theorem edge_into (hs : 0 < s) (h9 : m = .nine → 1 < s) (hk : 1 ≤ k) (hn : 0 < n) (hc : 0 ≤ cut ∧ cut ≤ 50) (hr : Rng r) (hr' : Rng r')
    (h1 : r'.2 * (vb m * (n * (100 - cut))) ≤ vt m s k * 100 * r'.1) (h2 : vt m s k * 100 * r.1 ≤ r.2 * (vb m * (n * (100 - cut)))) :
    lawIn (lawG m s (n * (100 - cut)) false k) = true ∧ rle r (lawG m s (n * (100 - cut)) false k) ∧ rle (lawG m s (n * (100 - cut)) false k) r' := by
  have hp := vt_pos hs hk h9
  have hv := (vb_pos m).1
  have ht : 0 < n * (100 - cut) := Int.mul_pos hn (by omega)
  have p2 : 0 < vb m * (n * (100 - cut)) := Int.mul_pos hv ht
  have a1 : rle r (lawG m s (n * (100 - cut)) false k) := (low_le p2 (by omega)).1.mpr (by rw [Int.mul_comm r.1, Int.mul_comm _ r.2]; exact h2)
  have a2 : rle (lawG m s (n * (100 - cut)) false k) r' := (low_le p2 (by omega)).2.mpr (by rw [Int.mul_comm r'.1, Int.mul_comm _ r'.2]; exact h1)
  exact ⟨in_between hr hr' (red_lowest p2 (by omega)).1 a1 a2, a1, a2⟩
end
theorem lawG_mem {u : Ru} {n k : Int} {back : Bool} (hs : 0 < u.s) (h9 : u.m = .nine → 1 < u.s) (hn : 0 < n) (hc : 0 ≤ u.k ∧ u.k ≤ 50) (hk : 1 ≤ k) (h : lawIn (lawG u.m u.s (n * (100 - u.k)) back k) = true) : lawG u.m u.s (n * (100 - u.k)) back k ∈ ruleEdges u back n := by
  refine (lawL_mem hs h9 hn hc _).mp ?_
  have hv := (vb_pos u.m)
  have hl := lawG_in hs hk h9 hn hc h
  have := (le_lawN (m := u.m) (s := u.s) (n := n) (k := k) hs).mpr (by
    have : (4 * n + u.s) * vb u.m = 4 * n * vb u.m + u.s * vb u.m := Int.add_mul _ _ _
    have : 0 < u.s * vb u.m := Int.mul_pos hs hv.1
    omega)
  unfold lawL
  refine List.mem_filter.mpr ⟨List.mem_map.mpr ⟨(k - 1).toNat, List.mem_range.mpr (by omega), ?_⟩, h⟩
  rw [show 1 + (((k - 1).toNat : Nat) : Int) = k by omega]
theorem gives_jump {u : Ru} {n : Int} {back : Bool} {r r' : Rate} (hs : 0 < u.s) (h9 : u.m = .nine → 1 < u.s) (hn : 0 < n) (hc : 0 ≤ u.k ∧ u.k ≤ 50) (hr : Rng r) (hr' : Rng r') (h : rle r r') (hne : gives u back n r ≠ gives u back n r') :
    ∃ e ∈ ruleEdges u back n, rle r e ∧ rle e r' := by
  have ht : 0 < 100 - u.k := by omega
  unfold rle at h
  cases back with
  | true =>
    have hq : rounded u.m u.s (n * r.1 * (100 - u.k)) (r.2 * 100) ≠ rounded u.m u.s (n * r'.1 * (100 - u.k)) (r'.2 * 100) := fun z => hne (by
      show max 0 (rounded u.m u.s (n * r.1 * (100 - u.k)) (r.2 * 100) - u.c) = max 0 (rounded u.m u.s (n * r'.1 * (100 - u.k)) (r'.2 * 100) - u.c)
      rw [z])
    have q1 := hr.q
    have q2 := hr'.q
    obtain ⟨k, hk, k1, k2⟩ := jump hs (by omega) (by omega) (Int.mul_pos (Int.mul_pos hn hr.p) ht) (by
      have : r.1 * r'.2 * (n * (100 - u.k) * 100) ≤ r'.1 * r.2 * (n * (100 - u.k) * 100) := Int.mul_le_mul_of_nonneg_right h (by have := Int.mul_pos hn ht; omega)
      grind) hq
    have := edge_back (cut := u.k) hs h9 hk hn hc hr hr' (by grind) (by grind)
    exact ⟨_, lawG_mem hs h9 hn hc hk this.1, this.2⟩
  | false =>
    have hq : rounded u.m u.s (n * r'.2 * (100 - u.k)) (r'.1 * 100) ≠ rounded u.m u.s (n * r.2 * (100 - u.k)) (r.1 * 100) := fun z => hne (by
      show max 0 (rounded u.m u.s (n * r.2 * (100 - u.k)) (r.1 * 100) - u.c) = max 0 (rounded u.m u.s (n * r'.2 * (100 - u.k)) (r'.1 * 100) - u.c)
      rw [z])
    have q1 := hr.p
    have q2 := hr'.p
    obtain ⟨k, hk, k1, k2⟩ := jump hs (by omega) (by omega) (Int.mul_pos (Int.mul_pos hn hr'.q) ht) (by
      have : r.1 * r'.2 * (n * (100 - u.k) * 100) ≤ r'.1 * r.2 * (n * (100 - u.k) * 100) := Int.mul_le_mul_of_nonneg_right h (by have := Int.mul_pos hn ht; omega)
      grind) hq
    have := edge_into (cut := u.k) hs h9 hk hn hc hr hr' (by grind) (by grind)
    exact ⟨_, lawG_mem hs h9 hn hc hk this.1, this.2⟩
theorem tag_jump {o : Ro} {p : Int} {r r' : Rate} (hs : 0 < o.s) (h9 : o.m = .nine → 1 < o.s) (hp : 0 < p) (hr : Rng r) (hr' : Rng r') (h : rle r r') (hne : rounded o.m o.s (p * r.2) r.1 ≠ rounded o.m o.s (p * r'.2) r'.1) :
    ∃ e ∈ ruleEdges o.ru false p, rle r e ∧ rle e r' := by
  unfold rle at h
  obtain ⟨k, hk, k1, k2⟩ := jump hs hr'.p hr.p (Int.mul_pos hp hr'.q) (by
    have : r.1 * r'.2 * p ≤ r'.1 * r.2 * p := Int.mul_le_mul_of_nonneg_right h (by omega)
    grind) (Ne.symm hne)
  have := edge_into (cut := 0) hs h9 hk hp (by omega) hr hr' (by grind) (by grind)
  exact ⟨_, lawG_mem (u := o.ru) hs h9 hp ⟨by show (0 : Int) ≤ 0; omega, by show (0 : Int) ≤ 50; omega⟩ hk this.1, this.2⟩
theorem change_jump {o : Ro} {x : Int} {r r' : Rate} (hs : 0 < o.s) (h9 : o.m = .nine → 1 < o.s) (hx : 0 < x) (hr : Rng r) (hr' : Rng r') (h : rle r r') (hne : rounded o.m o.s (x * r.1) r.2 ≠ rounded o.m o.s (x * r'.1) r'.2) :
    ∃ e ∈ ruleEdges o.ru true x, rle r e ∧ rle e r' := by
  unfold rle at h
  obtain ⟨k, hk, k1, k2⟩ := jump hs hr.q hr'.q (Int.mul_pos hx hr.p) (by
    have : r.1 * r'.2 * x ≤ r'.1 * r.2 * x := Int.mul_le_mul_of_nonneg_right h (by omega)
    grind) hne
  have := edge_back (cut := 0) hs h9 hk hx (by omega) hr hr' (by grind) (by grind)
  exact ⟨_, lawG_mem (u := o.ru) hs h9 hx ⟨by show (0 : Int) ≤ 0; omega, by show (0 : Int) ≤ 50; omega⟩ hk this.1, this.2⟩
/-- no change for nothing -/
theorem change_zero {o : Ro} {b : Int} (hs : 0 < o.s) (hb : 0 < b) : rounded o.m o.s (0 * b) b = if o.m = .nine then o.s - 1 else 0 := by
  obtain ⟨m, s⟩ := o
  dsimp only at hs
  have hD : 0 < b * s := Int.mul_pos hb hs
  have hbs : b * 1 ≤ b * s := Int.mul_le_mul_of_nonneg_left (by omega) (by omega)
  have two : 2 * b * s = 2 * (b * s) := Int.mul_assoc _ _ _
  cases m with
  | down =>
    simp only [rounded]
    rw [Int.zero_mul, Int.zero_ediv, Int.zero_mul]
    rfl
  | up =>
    simp only [rounded]
    rw [Int.zero_mul, Int.ediv_eq_zero_of_lt (by omega) (by omega), Int.zero_mul]
    rfl
  | near =>
    simp only [rounded]
    rw [Int.zero_mul, two, Int.ediv_eq_zero_of_lt (by omega) (by omega), Int.zero_mul]
    rfl
  | nine =>
    simp only [rounded, if_true]
    rw [Int.zero_mul, show 0 + b + b * s - 1 = (b - 1) + (b * s) * 1 by omega, Int.add_mul_ediv_left _ _ (by omega), Int.ediv_eq_zero_of_lt (by omega) (by omega)]
    omega
structure RoV (o : Ro) : Prop where
  s : 0 < o.s
  n : o.m = .nine → 1 < o.s
/-- what a deed asks, again -/
def DV (W : Wd) : Deed → Prop
  | .ex bk i n => (RoV ⟨(W.rule i bk).m, (W.rule i bk).s⟩ ∧ 0 ≤ (W.rule i bk).k ∧ (W.rule i bk).k ≤ 50) ∧ 0 < n
  | .over i p m => RoV (W.shop i).1 ∧ RoV (W.shop i).2.1 ∧ 0 < p
  | .buy i p _ => RoV (W.shop i).1 ∧ 0 < p
  | .ret i p _ => RoV (W.shop i).1 ∧ 0 < p
theorem told_jump {W : Wd} {d : Deed} {r r' : Rate} (hd : DV W d) (hr : Rng r) (hr' : Rng r') (h : rle r r') (hne : told W d r ≠ told W d r') : ∃ e ∈ deedEdges W d, rle r e ∧ rle e r' := by
  cases d with
  | ex bk i n =>
    obtain ⟨⟨h1, h2⟩, h3⟩ := hd
    exact gives_jump h1.s h1.n h3 h2 hr hr' h fun z => hne (congrArg some z)
  | over i p m =>
    obtain ⟨h1, h2, h3⟩ := hd
    by_cases ht : tag (W.shop i) p r = tag (W.shop i) p r'
    · simp only [told] at hne
      rw [ht] at hne
      by_cases hlt : m < tag (W.shop i) p r'
      · rw [if_pos hlt, if_pos hlt] at hne
        exact absurd rfl hne
      · rw [if_neg hlt, if_neg hlt] at hne
        by_cases h0 : m - tag (W.shop i) p r' = 0
        · refine absurd ?_ hne
          unfold change
          rw [h0]
          have e1 := change_zero (o := (W.shop i).2.1) (b := r.2) h2.s hr.q
          have e2 := change_zero (o := (W.shop i).2.1) (b := r'.2) h2.s hr'.q
          rw [Int.zero_mul] at e1 e2
          rw [Int.zero_mul, Int.zero_mul, e1, e2]
        · have tn : 0 ≤ tag (W.shop i) p r' := rounded_nn h1.s hr'.p (Int.mul_nonneg (by omega) (by have := hr'.q; omega))
          obtain ⟨e, he, e2⟩ := change_jump (x := m - tag (W.shop i) p r') h2.s h2.n (by omega) hr hr' h fun z => hne (congrArg some z)
          refine ⟨e, List.mem_append.mpr (.inr (List.mem_flatMap.mpr ⟨_, ?_, he⟩)), e2⟩
          unfold oneTo
          exact List.mem_map.mpr ⟨(m - tag (W.shop i) p r' - 1).toNat, List.mem_range.mpr (by omega), by omega⟩
    · obtain ⟨e, he, e2⟩ := tag_jump h1.s h1.n h3 hr hr' h ht
      exact ⟨e, List.mem_append.mpr (.inl he), e2⟩
  | buy i p home =>
    obtain ⟨h1, h3⟩ := hd
    exact tag_jump h1.s h1.n h3 hr hr' h fun z => hne (by
      have z' : tag (W.shop i) p r = tag (W.shop i) p r' := z
      simp only [told, z'])
  | ret i p home =>
    obtain ⟨h1, h3⟩ := hd
    exact tag_jump h1.s h1.n h3 hr hr' h fun z => hne (by
      have z' : tag (W.shop i) p r = tag (W.shop i) p r' := z
      simp only [told, z'])
theorem ledGo_same {W : Wd} {r r' : Rate} : ∀ (ds : List Deed) (i : Nat) (st : Stand) (found : List Int), (∀ d ∈ ds, told W d r = told W d r') → ledGo W r i st found ds = ledGo W r' i st found ds
  | [], _, _, _, _ => rfl
  | d :: ds, i, st, found, h => by
    unfold ledGo
    rw [h d List.mem_cons_self]
    split
    · rfl
    · split
      · rfl
      · exact ledGo_same ds _ _ _ fun x hx => h x (List.mem_cons_of_mem _ hx)
/-- what is left is the same at rates with no edge between -/
theorem left_same {W : Wd} {ds : List Deed} {p : Int × Int} {r r' : Rate} (hd : ∀ d ∈ ds, DV W d) (hr : Rng r) (hr' : Rng r') (h : rle r r') (hno : ∀ e ∈ scriptEdges W ds, ¬ (rle r e ∧ rle e r')) : left W ds p r = left W ds p r' := by
  unfold left led
  rw [ledGo_same ds 0 _ [] fun d hdm => ?_]
  refine Decidable.byContradiction fun hne => ?_
  obtain ⟨e, he, e2⟩ := told_jump (hd d hdm) hr hr' h hne
  exact hno e (List.mem_flatMap.mpr ⟨d, hdm, he⟩) e2
end AM
end Sec_M7
section Sec_M8
/-! Chains of spans; the joined chain is unique. -/
namespace AM
/-- (q, false) lies just before q, (q, true) just after it -/
abbrev Cut := Rat × Bool
def clt (a b : Cut) : Prop := a.1 < b.1 ∨ (a.1 = b.1 ∧ a.2 = false ∧ b.2 = true)
def cle (a b : Cut) : Prop := a.1 < b.1 ∨ (a.1 = b.1 ∧ (a.2 = false ∨ b.2 = true))
def loC (s : Span) : Cut := (val s.1, !s.2.1)
def hiC (s : Span) : Cut := (val s.2.2.1, s.2.2.2)
theorem cle_of_clt {a b : Cut} (h : clt a b) : cle a b := by
  unfold clt at h; unfold cle; grind
theorem cle_refl (a : Cut) : cle a a := by
  unfold cle
  cases a.2 <;> grind
theorem cle_trans {a b c : Cut} (h1 : cle a b) (h2 : cle b c) : cle a c := by
  unfold cle at *; grind
theorem clt_cle {a b c : Cut} (h1 : clt a b) (h2 : cle b c) : clt a c := by
  unfold cle clt at *; grind
theorem cle_clt {a b c : Cut} (h1 : cle a b) (h2 : clt b c) : clt a c := by
  unfold cle clt at *; grind
theorem clt_irr {a : Cut} (h : clt a a) : False := by
  unfold clt at h; grind
theorem cle_or (a b : Cut) : clt a b ∨ cle b a := by
  unfold cle clt
  cases a.2 <;> cases b.2 <;> grind
theorem cle_anti {a b : Cut} (h1 : cle a b) (h2 : cle b a) : a = b := by
  obtain ⟨x, i⟩ := a
  obtain ⟨y, j⟩ := b
  unfold cle at *
  simp only at *
  cases i <;> cases j <;> grind
/-- q lies between the cuts -/
def Btw (c : Cut) (q : Rat) (c' : Cut) : Prop := cle c (q, false) ∧ cle (q, true) c'
theorem btw_ex {c c' : Cut} (h : clt c c') : ∃ q, Btw c q c' := by
  obtain ⟨x, i⟩ := c
  obtain ⟨y, j⟩ := c'
  unfold clt at h
  simp only at h
  rcases h with h | ⟨rfl, rfl, rfl⟩
  · refine ⟨(x + y) / 2, ?_, ?_⟩
    · exact .inl (by grind)
    · exact .inl (by grind)
  · exact ⟨x, .inr ⟨rfl, .inl rfl⟩, .inr ⟨rfl, .inr rfl⟩⟩
theorem btw_split {c m c' : Cut} {q : Rat} (h : Btw c q c') : Btw c q m ∨ Btw m q c' := by
  rcases cle_or m (q, true) with h1 | h1
  · right
    refine ⟨?_, h.2⟩
    unfold clt at h1
    unfold cle
    grind
  · exact .inl ⟨h.1, h1⟩
section
variable {α : Type}
/-- rows from one cut to another -/
def Ch (c c' : Cut) : List (Span × α) → Prop
  | [] => c = c'
  | r :: l => loC r.1 = c ∧ clt (loC r.1) (hiC r.1) ∧ Red r.1.1 ∧ Red r.1.2.2.1 ∧ Ch (hiC r.1) c' l
def Good (ω : Rat → α) (l : List (Span × α)) : Prop := ∀ r ∈ l, ∀ q, Btw (loC r.1) q (hiC r.1) → ω q = r.2
def Sep : List (Span × α) → Prop
  | r :: r' :: l => r.2 ≠ r'.2 ∧ Sep (r' :: l)
  | _ => True
theorem Ch.le : ∀ {l : List (Span × α)} {c c' : Cut}, Ch c c' l → cle c c'
  | [], c, c', h => by rw [show c = c' from h]; exact cle_refl _
  | r :: l, c, c', h => by
    obtain ⟨h1, h2, _, _, h5⟩ := h
    rw [← h1]
    exact cle_trans (cle_of_clt h2) h5.le
theorem Ch.app : ∀ {l m : List (Span × α)} {c c' c'' : Cut}, Ch c c' l → Ch c' c'' m → Ch c c'' (l ++ m)
  | [], m, c, c', c'', h, h2 => by rw [show c = c' from h]; exact h2
  | r :: l, m, c, c', c'', ⟨h1, h2, h3, h4, h5⟩, h6 => ⟨h1, h2, h3, h4, h5.app h6⟩
theorem span_eq {s t : Span} (a1 : Red s.1) (a2 : Red s.2.2.1) (b1 : Red t.1) (b2 : Red t.2.2.1) (h1 : loC s = loC t) (h2 : hiC s = hiC t) : s = t := by
  obtain ⟨x, i, y, j⟩ := s
  obtain ⟨x', i', y', j'⟩ := t
  have e1 : x = x' := red_eq a1 b1 (congrArg Prod.fst h1)
  have e2 : y = y' := red_eq a2 b2 (congrArg Prod.fst h2)
  have e3 : (!i) = !i' := congrArg Prod.snd h1
  have e4 : j = j' := congrArg Prod.snd h2
  have e5 : i = i' := by cases i <;> cases i' <;> simp_all
  rw [e1, e2, e4, e5]
theorem short {ω : Rat → α} {s t : Span} {x y : α} {l : List (Span × α)} {c' : Cut}
    (h5 : Ch (hiC s) c' l) (hg : Good ω ((s, x) :: l)) (hs : Sep ((s, x) :: l)) (he : loC s = loC t) (ht : clt (loC t) (hiC t)) (hs2 : clt (loC s) (hiC s)) (hy : ∀ q, Btw (loC t) q (hiC t) → ω q = y) (hc : cle (hiC t) c') : cle (hiC t) (hiC s) := by
  rcases cle_or (hiC s) (hiC t) with h | h
  · exfalso
    cases l with
    | nil =>
      have : hiC s = c' := h5
      rw [← this] at hc
      exact clt_irr (clt_cle h hc)
    | cons r l =>
      obtain ⟨h6, h7, _, _, _⟩ := h5
      have hne : x ≠ r.2 := hs.1
      obtain ⟨q, hq⟩ := btw_ex hs2
      have e1 := hg (s, x) List.mem_cons_self q hq
      have e2 := hy q ⟨he ▸ hq.1, cle_trans hq.2 (cle_of_clt h)⟩
      rcases cle_or (hiC r.1) (hiC t) with k | k
      · obtain ⟨q', hq'⟩ := btw_ex h7
        have e3 := hg r (List.mem_cons_of_mem _ List.mem_cons_self) q' hq'
        have e4 := hy q' ⟨cle_trans (cle_of_clt (he ▸ hs2)) (h6 ▸ hq'.1), cle_trans hq'.2 (cle_of_clt k)⟩
        simp_all
      · obtain ⟨q', hq'⟩ := btw_ex h
        have e3 := hg r (List.mem_cons_of_mem _ List.mem_cons_self) q' ⟨h6 ▸ hq'.1, cle_trans hq'.2 k⟩
        have e4 := hy q' ⟨cle_trans (cle_of_clt (he ▸ hs2)) hq'.1, hq'.2⟩
        simp_all
  · exact h
theorem chain_unique {ω : Rat → α} : ∀ {l m : List (Span × α)} {c c' : Cut}, Ch c c' l → Ch c c' m → Good ω l → Good ω m → Sep l → Sep m → l = m
  | [], [], _, _, _, _, _, _, _, _ => rfl
  | [], r :: m, c, c', h, ⟨k1, k2, _, _, k5⟩, _, _, _, _ => by
    rw [← show c = c' from h, ← k1] at k5
    exact (clt_irr (clt_cle k2 k5.le)).elim
  | r :: m, [], c, c', ⟨k1, k2, _, _, k5⟩, h, _, _, _, _ => by
    rw [← show c = c' from h, ← k1] at k5
    exact (clt_irr (clt_cle k2 k5.le)).elim
  | (s, x) :: l, (t, y) :: m, c, c', ⟨h1, h2, h3, h4, h5⟩, ⟨k1, k2, k3, k4, k5⟩, hg, kg, hs, ks => by
    simp only at *
    have he : loC s = loC t := h1.trans k1.symm
    have a1 := short h5 hg hs he k2 h2 (kg (t, y) List.mem_cons_self) k5.le
    have a2 := short k5 kg ks he.symm h2 k2 (hg (s, x) List.mem_cons_self) h5.le
    have e2 := cle_anti a2 a1
    have e := span_eq h3 h4 k3 k4 he e2
    subst e
    obtain ⟨q, hq⟩ := btw_ex h2
    have e3 : x = y := (hg (s, x) List.mem_cons_self q hq).symm.trans (kg (s, y) List.mem_cons_self q hq)
    subst e3
    have hsl : ∀ {z : List (Span × α)}, Sep ((s, x) :: z) → Sep z := fun {z} h => by
      cases z with
      | nil => trivial
      | cons => exact h.2
    rw [chain_unique h5 k5 (fun r hr => hg r (List.mem_cons_of_mem _ hr)) (fun r hr => kg r (List.mem_cons_of_mem _ hr)) (hsl hs) (hsl ks)]
/-! ### joining -/
variable [DecidableEq α]
theorem lawJoinGo_ok {ω : Rat → α} : ∀ {l : List (Span × α)} {last : Span × α} {c c' : Cut}, Ch c c' (last :: l) → Good ω (last :: l) →
    Ch c c' (lawJoinGo l last) ∧ Good ω (lawJoinGo l last) ∧ Sep (lawJoinGo l last) ∧ ∃ r m, lawJoinGo l last = r :: m ∧ r.2 = last.2
  | [], last, c, c', h, hg => ⟨h, hg, trivial, last, [], rfl, rfl⟩
  | (s, x) :: l, last, c, c', ⟨h1, h2, h3, h4, h5⟩, hg => by
    obtain ⟨k1, k2, k3, k4, k5⟩ := h5
    simp only at *
    unfold lawJoinGo
    by_cases e : last.2 = x
    · rw [if_pos e]
      have := lawJoinGo_ok (ω := ω) (l := l) (last := ((last.1.1, last.1.2.1, s.2.2.1, s.2.2.2), x)) (c := c) (c' := c') ⟨h1, clt_cle h2 (k1 ▸ cle_of_clt k2), h3, k4, k5⟩ (fun r hr q hq => by
        rcases List.mem_cons.mp hr with hr | hr
        · subst hr
          rcases btw_split (m := hiC last.1) hq with b | b
          · rw [← e]
            exact hg last List.mem_cons_self q b
          · exact hg (s, x) (List.mem_cons_of_mem _ List.mem_cons_self) q (by rw [show loC (s, x).1 = hiC last.1 from k1]; exact b)
        · exact hg r (List.mem_cons_of_mem _ (List.mem_cons_of_mem _ hr)) q hq)
      obtain ⟨a, b, d, r, m, f, g⟩ := this
      exact ⟨a, b, d, r, m, f, g.trans e.symm⟩
    · rw [if_neg e]
      obtain ⟨a, b, d, r, m, f, g⟩ := lawJoinGo_ok (ω := ω) (l := l) (last := (s, x)) (c := hiC last.1) (c' := c') ⟨k1, k2, k3, k4, k5⟩ (fun r hr => hg r (List.mem_cons_of_mem _ hr))
      refine ⟨⟨h1, h2, h3, h4, a⟩, fun r hr => ?_, ?_, last, _, rfl, rfl⟩
      · rcases List.mem_cons.mp hr with hr | hr
        · subst hr; exact hg _ List.mem_cons_self
        · exact b r hr
      · rw [f] at d ⊢
        exact ⟨fun z => e (z.trans g), d⟩
theorem lawJoined_ok {ω : Rat → α} {l : List (Span × α)} {c c' : Cut} (h : Ch c c' l) (hg : Good ω l) : Ch c c' (lawJoined l) ∧ Good ω (lawJoined l) ∧ Sep (lawJoined l) := by
  cases l with
  | nil => exact ⟨h, hg, trivial⟩
  | cons r l =>
    obtain ⟨a, b, d, _⟩ := lawJoinGo_ok h hg
    exact ⟨a, b, d⟩
theorem touch_of {s t : Span} (h1 : Red s.2.2.1) (h2 : Red t.1) (h : loC t = hiC s) : touch s t = true := by
  obtain ⟨x, i, y, j⟩ := s
  obtain ⟨x', i', y', j'⟩ := t
  have e1 : x' = y := red_eq h2 h1 (congrArg Prod.fst h)
  have e2 : (!i') = j := congrArg Prod.snd h
  unfold touch
  simp only
  rw [← e1, ← e2]
  cases i' <;> simp
theorem joinGo_eq : ∀ {l : List (Span × α)} {last : Span × α} {c c' : Cut}, Ch c c' (last :: l) → joinGo l last = lawJoinGo l last
  | [], last, c, c', h => rfl
  | (s, x) :: l, last, c, c', ⟨h1, h2, h3, h4, h5⟩ => by
    obtain ⟨k1, k2, k3, k4, k5⟩ := h5
    have ht : touch last.1 s = true := touch_of h4 k3 k1
    unfold lawJoinGo joinGo
    by_cases e : last.2 = x
    · rw [if_pos ⟨e, ht⟩, if_pos e]
      exact joinGo_eq (c := c) (c' := c') ⟨h1, clt_cle h2 (k1 ▸ cle_of_clt k2), h3, k4, k5⟩
    · rw [if_neg fun z => e z.1, if_neg e, joinGo_eq (c := hiC last.1) (c' := c') ⟨k1, k2, k3, k4, k5⟩]
theorem joined_eq {l : List (Span × α)} {c c' : Cut} (h : Ch c c' l) : joined l = lawJoined l := by
  cases l with
  | nil => rfl
  | cons r l => exact joinGo_eq h
theorem Ch.flat {β : Type} {f : Span × α → List (Span × β)} : ∀ {l : List (Span × α)} {c c' : Cut}, Ch c c' l → (∀ r ∈ l, Ch (loC r.1) (hiC r.1) (f r)) → Ch c c' (l.flatMap f)
  | [], c, c', h, _ => h
  | r :: l, c, c', ⟨h1, h2, h3, h4, h5⟩, hf => by
    rw [List.flatMap_cons]
    exact (h1 ▸ hf r List.mem_cons_self).app (Ch.flat h5 fun r hr => hf r (List.mem_cons_of_mem _ hr))
theorem Ch.map {β : Type} {f : Span × α → β} : ∀ {l : List (Span × α)} {c c' : Cut}, Ch c c' l → Ch c c' (l.map fun r => (r.1, f r))
  | [], c, c', h => h
  | r :: l, c, c', ⟨h1, h2, h3, h4, h5⟩ => ⟨h1, h2, h3, h4, h5.map⟩
/-- every point lies in a row -/
theorem Ch.at {q : Rat} : ∀ {l : List (Span × α)} {c c' : Cut}, Ch c c' l → Btw c q c' → ∃ r ∈ l, Btw (loC r.1) q (hiC r.1)
  | [], c, c', h, hq => by
    rw [show c = c' from h] at hq
    exfalso
    have := cle_trans hq.2 hq.1
    unfold cle at this
    grind
  | r :: l, c, c', ⟨h1, h2, h3, h4, h5⟩, hq => by
    rcases btw_split (m := hiC r.1) hq with h | h
    · exact ⟨r, List.mem_cons_self, h1 ▸ h⟩
    · obtain ⟨r', hr', h'⟩ := Ch.at h5 h
      exact ⟨r', List.mem_cons_of_mem _ hr', h'⟩
end
end AM
end Sec_M8
section Sec_M9
/-! Meeting a chain; cells are chains. -/
namespace AM
theorem less_iff {a b : Rate} (ha : Red a) (hb : Red b) : isLess a b = true ↔ val a < val b := (val_lt ha.q hb.q).symm
theorem eq_iff {a b : Rate} (ha : Red a) (hb : Red b) : a = b ↔ val a = val b := ⟨fun h => h ▸ rfl, red_eq ha hb⟩
def cmax (a b : Cut) : Cut := if a.1 < b.1 ∨ (a.1 = b.1 ∧ b.2 = true) then b else a
def cmin (a b : Cut) : Cut := if b.1 < a.1 ∨ (a.1 = b.1 ∧ b.2 = false) then b else a
theorem cmax_or (a b : Cut) : (cmax a b = a ∧ cle b a) ∨ (cmax a b = b ∧ cle a b) := by
  unfold cmax cle
  split <;> grind
theorem cmin_or (a b : Cut) : (cmin a b = a ∧ cle a b) ∨ (cmin a b = b ∧ cle b a) := by
  unfold cmin cle
  split <;> grind
theorem meet_lo {a b : Span} (ha : Red a.1) (hb : Red b.1) :
    let lo := if isLess a.1 b.1 = true ∨ (a.1 = b.1 ∧ b.2.1 = false) then (b.1, b.2.1) else (a.1, a.2.1)
    Red lo.1 ∧ (val lo.1, !lo.2) = cmax (loC a) (loC b) := by
  unfold cmax loC
  simp only
  split
  · rename_i h
    rw [less_iff ha hb, eq_iff ha hb] at h
    rw [if_pos (by simpa using h)]
    exact ⟨hb, rfl⟩
  · rename_i h
    rw [less_iff ha hb, eq_iff ha hb] at h
    rw [if_neg (by simpa using h)]
    exact ⟨ha, rfl⟩
theorem meet_hi {a b : Span} (ha : Red a.2.2.1) (hb : Red b.2.2.1) :
    let hi := if isLess b.2.2.1 a.2.2.1 = true ∨ (a.2.2.1 = b.2.2.1 ∧ b.2.2.2 = false) then (b.2.2.1, b.2.2.2) else (a.2.2.1, a.2.2.2)
    Red hi.1 ∧ (val hi.1, hi.2) = cmin (hiC a) (hiC b) := by
  unfold cmin hiC
  simp only
  split
  · rename_i h
    rw [less_iff hb ha, eq_iff ha hb] at h
    rw [if_pos (by simpa using h)]
    exact ⟨hb, rfl⟩
  · rename_i h
    rw [less_iff hb ha, eq_iff ha hb] at h
    rw [if_neg (by simpa using h)]
    exact ⟨ha, rfl⟩
theorem meet_ok {a b : Span} (a1 : Red a.1) (a2 : Red a.2.2.1) (b1 : Red b.1) (b2 : Red b.2.2.1) :
    (∃ u, meet a b = some u ∧ Red u.1 ∧ Red u.2.2.1 ∧ loC u = cmax (loC a) (loC b) ∧ hiC u = cmin (hiC a) (hiC b) ∧ clt (loC u) (hiC u)) ∨
    (meet a b = none ∧ cle (cmin (hiC a) (hiC b)) (cmax (loC a) (loC b))) := by
  obtain ⟨l1, l2⟩ := meet_lo (a := a) (b := b) a1 b1
  obtain ⟨h1, h2⟩ := meet_hi (a := a) (b := b) a2 b2
  unfold meet
  revert l1 l2 h1 h2
  simp only
  generalize (if isLess a.1 b.1 = true ∨ (a.1 = b.1 ∧ b.2.1 = false) then (b.1, b.2.1) else (a.1, a.2.1)) = lo
  generalize (if isLess b.2.2.1 a.2.2.1 = true ∨ (a.2.2.1 = b.2.2.1 ∧ b.2.2.2 = false) then (b.2.2.1, b.2.2.2) else (a.2.2.1, a.2.2.2)) = hi
  intro l1 l2 h1 h2
  rw [← l2, ← h2]
  split
  · rename_i h
    rw [less_iff h1 l1, eq_iff l1 h1] at h
    right
    refine ⟨rfl, ?_⟩
    unfold cle
    simp only
    clear l2 h2
    generalize val lo.1 = x at h ⊢
    generalize val hi.1 = y at h ⊢
    revert h
    cases lo.2 <;> cases hi.2 <;> simp only [Bool.not_true, Bool.not_false, Bool.false_eq_true, Bool.true_eq_false, true_and, and_true, and_false, or_false, or_true, false_or, true_or, not_true, not_false_iff, and_self] <;> grind
  · rename_i h
    rw [less_iff h1 l1, eq_iff l1 h1] at h
    left
    refine ⟨_, rfl, l1, h1, rfl, rfl, ?_⟩
    unfold clt loC hiC
    simp only
    clear l2 h2
    generalize val lo.1 = x at h ⊢
    generalize val hi.1 = y at h ⊢
    revert h
    cases lo.2 <;> cases hi.2 <;> simp only [Bool.not_true, Bool.not_false, Bool.false_eq_true, Bool.true_eq_false, true_and, and_true, and_false, or_false, or_true, false_or, true_or, not_true, not_false_iff, and_self] <;> grind
def clamp (lo hi c : Cut) : Cut := cmax lo (cmin hi c)
theorem clamp_meet {a b c d : Cut} (h1 : clt a b) (h2 : clt c d) (h : clt (cmax a c) (cmin b d)) : cmax a c = clamp a b c ∧ cmin b d = clamp a b d := by
  obtain ⟨x1, i1⟩ := a
  obtain ⟨x2, i2⟩ := b
  obtain ⟨x3, i3⟩ := c
  obtain ⟨x4, i4⟩ := d
  revert h1 h2 h
  unfold clamp cmax cmin clt
  cases i1 <;> cases i2 <;> cases i3 <;> cases i4 <;> grind
theorem clamp_none {a b c d : Cut} (h1 : clt a b) (h2 : clt c d) (h : cle (cmin b d) (cmax a c)) : clamp a b c = clamp a b d := by
  obtain ⟨x1, i1⟩ := a
  obtain ⟨x2, i2⟩ := b
  obtain ⟨x3, i3⟩ := c
  obtain ⟨x4, i4⟩ := d
  revert h1 h2 h
  unfold clamp cmax cmin clt cle
  cases i1 <;> cases i2 <;> cases i3 <;> cases i4 <;> grind
theorem Ch.meet {α β : Type} {s : Span} {g : Span × α → β} (hs : clt (loC s) (hiC s)) (r1 : Red s.1) (r2 : Red s.2.2.1) : ∀ {l : List (Span × α)} {c c' : Cut}, Ch c c' l →
    Ch (clamp (loC s) (hiC s) c) (clamp (loC s) (hiC s) c') (l.filterMap fun x => (AM.meet s x.1).map fun t => (t, g x))
  | [], c, c', h => by rw [show c = c' from h]; exact rfl
  | r :: l, c, c', ⟨h1, h2, h3, h4, h5⟩ => by
    have ih := Ch.meet (g := g) hs r1 r2 h5
    rcases meet_ok (a := s) (b := r.1) r1 r2 h3 h4 with ⟨u, e, u1, u2, e1, e2, u3⟩ | ⟨e, k⟩
    · rw [List.filterMap_cons, e]
      obtain ⟨m1, m2⟩ := clamp_meet hs h2 (e1 ▸ e2 ▸ u3)
      refine ⟨?_, u3, u1, u2, ?_⟩
      · show loC u = _
        rw [e1, m1, h1]
      · show Ch (hiC u) _ _
        rw [e2, m2]
        exact ih
    · rw [List.filterMap_cons, e]
      show Ch _ _ _
      rw [← h1, clamp_none hs h2 k]
      exact ih
theorem cmax_cle {a b c : Cut} : cle (cmax a b) c ↔ cle a c ∧ cle b c := by
  rcases cmax_or a b with ⟨e, f⟩ | ⟨e, f⟩ <;> rw [e]
  · exact ⟨fun h => ⟨h, cle_trans f h⟩, fun h => h.1⟩
  · exact ⟨fun h => ⟨cle_trans f h, h⟩, fun h => h.2⟩
theorem cle_cmin {a b c : Cut} : cle c (cmin a b) ↔ cle c a ∧ cle c b := by
  rcases cmin_or a b with ⟨e, f⟩ | ⟨e, f⟩ <;> rw [e]
  · exact ⟨fun h => ⟨h, cle_trans h f⟩, fun h => h.1⟩
  · exact ⟨fun h => ⟨cle_trans h f, h⟩, fun h => h.2⟩
theorem good_meet {α β : Type} {s : Span} {g : Span × α → β} {ω : Rat → β} (r1 : Red s.1) (r2 : Red s.2.2.1) {l : List (Span × α)} (hl : ∀ r ∈ l, Red r.1.1 ∧ Red r.1.2.2.1)
    (h : ∀ r ∈ l, ∀ q, Btw (loC s) q (hiC s) → Btw (loC r.1) q (hiC r.1) → ω q = g r) : Good ω (l.filterMap fun x => (AM.meet s x.1).map fun t => (t, g x)) := by
  intro r hr q hq
  obtain ⟨x, hx, e⟩ := List.mem_filterMap.mp hr
  obtain ⟨a1, a2⟩ := hl x hx
  rcases meet_ok (a := s) (b := x.1) r1 r2 a1 a2 with ⟨u, e', u1, u2, e1, e2, u3⟩ | ⟨e', k⟩
  · rw [e'] at e
    have : r = (u, g x) := (Option.some.inj e).symm
    subst this
    obtain ⟨b1, b2⟩ := hq
    rw [show loC (u, g x).1 = loC u from rfl, e1] at b1
    rw [show hiC (u, g x).1 = hiC u from rfl, e2] at b2
    exact h x hx q ⟨(cmax_cle.mp b1).1, (cle_cmin.mp b2).1⟩ ⟨(cmax_cle.mp b1).2, (cle_cmin.mp b2).2⟩
  · rw [e'] at e
    exact absurd e (by simp)
theorem Ch.red {α : Type} : ∀ {l : List (Span × α)} {c c' : Cut}, Ch c c' l → ∀ r ∈ l, Red r.1.1 ∧ Red r.1.2.2.1 ∧ clt (loC r.1) (hiC r.1) ∧ cle c (loC r.1) ∧ cle (hiC r.1) c'
  | r :: l, c, c', ⟨h1, h2, h3, h4, h5⟩, x, hx => by
    rcases List.mem_cons.mp hx with hx | hx
    · subst hx
      exact ⟨h3, h4, h2, h1 ▸ cle_refl _, h5.le⟩
    · obtain ⟨a, b, d, e, f⟩ := h5.red x hx
      exact ⟨a, b, d, cle_trans (h1 ▸ cle_of_clt h2) e, f⟩
theorem clamp_lo {a b : Cut} (h : clt a b) {c : Cut} (h1 : cle c a) : clamp a b c = a := by
  unfold clamp
  rcases cmin_or b c with ⟨e, f⟩ | ⟨e, f⟩ <;> rw [e]
  · exact (clt_irr (clt_cle h (cle_trans f h1))).elim
  · rcases cmax_or a c with ⟨e, g⟩ | ⟨e, g⟩ <;> rw [e]
    exact cle_anti h1 g
theorem clamp_hi {a b : Cut} (h : clt a b) {c : Cut} (h1 : cle b c) : clamp a b c = b := by
  unfold clamp
  have : cmin b c = b := by
    rcases cmin_or b c with ⟨e, f⟩ | ⟨e, f⟩ <;> rw [e]
    exact cle_anti f h1
  rw [this]
  rcases cmax_or a b with ⟨e, g⟩ | ⟨e, g⟩ <;> rw [e]
  exact (clt_irr (clt_cle h g)).elim
/-! ### cells -/
def Mid (mid : Rate → Rate → Rate) : Prop := ∀ a b, Red a → Red b → val a < val b → Red (mid a b) ∧ val a < val (mid a b) ∧ val (mid a b) < val b
theorem pairs_ch {mid : Rate → Rate → Rate} : ∀ (l : List Rate) (a : Rate), (∀ z ∈ a :: l, Red z) → Asc (a :: l) → ∃ z ∈ a :: l, Ch (val a, true) (val z, true) (pairsOf mid (a :: l)) ∧ ∀ e ∈ a :: l, val e ≤ val z
  | [], a, h, _ => ⟨a, List.mem_cons_self, rfl, fun e he => by
    rcases List.mem_cons.mp he with he | he
    · rw [he]; grind
    · exact absurd he (by simp)⟩
  | b :: l, a, h, ha => by
    obtain ⟨h1, h2⟩ := List.pairwise_cons.mp ha
    have hab := h1 b List.mem_cons_self
    obtain ⟨z, hz, hc, hm⟩ := pairs_ch (mid := mid) l b (fun z hz => h z (List.mem_cons_of_mem _ hz)) h2
    refine ⟨z, List.mem_cons_of_mem _ hz, ?_, fun e he => ?_⟩
    · have ra := h a List.mem_cons_self
      have rb := h b (List.mem_cons_of_mem _ List.mem_cons_self)
      exact ⟨rfl, .inl hab, ra, rb, rfl, .inr ⟨rfl, rfl, rfl⟩, rb, rb, hc⟩
    · rcases List.mem_cons.mp he with he | he
      · rw [he]
        have := hm b List.mem_cons_self
        grind
      · exact hm e he
theorem mem_pairs {mid : Rate → Rate → Rate} : ∀ (l : List Rate) (a : Rate), Asc (a :: l) → ∀ c ∈ pairsOf mid (a :: l), (∃ b ∈ l, c = ((b, true, b, true), b)) ∨
    ∃ x ∈ a :: l, ∃ y ∈ a :: l, c = ((x, false, y, false), mid x y) ∧ val x < val y ∧ ∀ e ∈ a :: l, val e ≤ val x ∨ val y ≤ val e
  | [], a, _, c, hc => absurd hc (by simp [pairsOf])
  | b :: l, a, ha, c, hc => by
    obtain ⟨h1, h2⟩ := List.pairwise_cons.mp ha
    obtain ⟨h3, _⟩ := List.pairwise_cons.mp h2
    have hab := h1 b List.mem_cons_self
    unfold pairsOf at hc
    rcases List.mem_cons.mp hc with hc | hc
    · right
      refine ⟨a, List.mem_cons_self, b, List.mem_cons_of_mem _ List.mem_cons_self, hc, hab, fun e he => ?_⟩
      rcases List.mem_cons.mp he with he | he
      · left; rw [he]; grind
      · right
        rcases List.mem_cons.mp he with he | he
        · rw [he]; grind
        · have := h3 e he; grind
    · rcases List.mem_cons.mp hc with hc | hc
      · exact .inl ⟨b, List.mem_cons_self, hc⟩
      · rcases mem_pairs l b h2 c hc with ⟨x, hx, e⟩ | ⟨x, hx, y, hy, e, hxy, hn⟩
        · exact .inl ⟨x, List.mem_cons_of_mem _ hx, e⟩
        · refine .inr ⟨x, List.mem_cons_of_mem _ hx, y, List.mem_cons_of_mem _ hy, e, hxy, fun z hz => ?_⟩
          rcases List.mem_cons.mp hz with hz | hz
          · left
            rw [hz]
            rcases List.mem_cons.mp hx with hx | hx
            · rw [hx]; grind
            · have := h1 x (List.mem_cons_of_mem _ hx); grind
          · exact hn z hz
/-- a rim -/
structure Rim (r : Rate) : Prop where
  red : Red r
  lo : val LOW ≤ val r
  hi : val r ≤ val HIGH
theorem rim_low : Rim LOW := ⟨red_low, by decide +kernel, by decide +kernel⟩
theorem rim_high : Rim HIGH := ⟨red_high, by decide +kernel, by decide +kernel⟩
theorem rims_cons {l : List Rate} (h : ∀ r ∈ l, Rim r) : ∀ r ∈ LOW :: HIGH :: l, Rim r := fun r hr => by
  rcases List.mem_cons.mp hr with e | hr
  · exact e ▸ rim_low
  · rcases List.mem_cons.mp hr with e | hr
    · exact e ▸ rim_high
    · exact h r hr
theorem sort_ends {l : List Rate} (h : ∀ r ∈ l, Rim r) : ∃ m, sortR (LOW :: HIGH :: l) = LOW :: m ∧ Asc (LOW :: m) ∧ (∀ r ∈ LOW :: m, Rim r) ∧ ∀ r, r ∈ LOW :: m ↔ r ∈ LOW :: HIGH :: l := by
  have hr := rims_cons h
  obtain ⟨h1, h2⟩ := sortR_ok (l := LOW :: HIGH :: l) fun z hz => (hr z hz).red
  generalize hs : sortR (LOW :: HIGH :: l) = s at h1 h2
  cases s with
  | nil => exact absurd ((h2 LOW).mpr List.mem_cons_self) (by simp)
  | cons a m =>
    have ha := hr a ((h2 a).mp List.mem_cons_self)
    obtain ⟨h3, _⟩ := List.pairwise_cons.mp h1
    have e : a = LOW := by
      rcases List.mem_cons.mp ((h2 LOW).mpr List.mem_cons_self) with e | hm
      · exact e.symm
      · have := h3 LOW hm
        have := ha.lo
        grind
    subst e
    exact ⟨m, rfl, h1, fun r hm => hr r ((h2 r).mp hm), h2⟩
theorem cells_ch {mid : Rate → Rate → Rate} {l : List Rate} (h : ∀ r ∈ l, Rim r) : Ch (val LOW, false) (val HIGH, true) (cellsOf mid l) := by
  obtain ⟨m, e, ha, hr, hm⟩ := sort_ends h
  unfold cellsOf
  rw [e]
  obtain ⟨z, hz, hc, hx⟩ := pairs_ch (mid := mid) m LOW (fun z hz => (hr z hz).red) ha
  have ez : val z = val HIGH := by
    have := hx HIGH ((hm HIGH).mpr (List.mem_cons_of_mem _ List.mem_cons_self))
    have := (hr z hz).hi
    grind
  rw [ez] at hc
  exact ⟨rfl, .inr ⟨rfl, rfl, rfl⟩, red_low, red_low, hc⟩
theorem cells_good {β : Type} {mid : Rate → Rate → Rate} (hmid : Mid mid) {l : List Rate} (h : ∀ r ∈ l, Rim r) {f : Rate → β} {ω : Rat → β} (hf : ∀ r, Rim r → f r = ω (val r))
    (hω : ∀ q q', val LOW ≤ q → q ≤ q' → q' ≤ val HIGH → (∀ e ∈ l, ¬ (q ≤ val e ∧ val e ≤ q')) → ω q = ω q') : ∀ c ∈ cellsOf mid l, ∀ q, Btw (loC c.1) q (hiC c.1) → ω q = f c.2 := by
  intro c hc q hq
  obtain ⟨m, e, ha, hr, hm⟩ := sort_ends h
  have one : ∀ r, Rim r → Btw (val r, false) q (val r, true) → ω q = f r := fun r hr hq => by
    have : val r = q := by
      obtain ⟨a, b⟩ := hq
      unfold cle at a b
      grind
    rw [← this, hf r hr]
  unfold cellsOf at hc
  rw [e] at hc
  rcases List.mem_cons.mp hc with hc | hc
  · subst hc
    exact one LOW rim_low hq
  · rcases mem_pairs m LOW ha c hc with ⟨b, hb, e⟩ | ⟨x, hx, y, hy, e, hxy, hn⟩
    · subst e
      exact one b (hr b (List.mem_cons_of_mem _ hb)) hq
    · subst e
      obtain ⟨m1, m2, m3⟩ := hmid x y (hr x hx).red (hr y hy).red hxy
      have q1 : val x < q := by
        have := hq.1
        unfold loC cle at this
        grind
      have q2 : q < val y := by
        have := hq.2
        unfold hiC cle at this
        grind
      have no : ∀ q q', val x < q → q' < val y → ∀ e ∈ l, ¬ (q ≤ val e ∧ val e ≤ q') := fun q q' a b e he k => by
        have := hn e ((hm e).mpr (List.mem_cons_of_mem _ (List.mem_cons_of_mem _ he)))
        grind
      have lx := (hr x hx).lo
      have ly := (hr y hy).hi
      show ω q = f (mid x y)
      rw [hf (mid x y) ⟨m1, by grind, by grind⟩]
      by_cases c : q ≤ val (mid x y)
      · exact hω _ _ (by grind) c (by grind) (no _ _ q1 m3)
      · exact (hω _ _ (by grind) (by grind) (by grind) (no _ _ m2 q2)).symm
theorem cells_map {β : Type} {mid : Rate → Rate → Rate} {l : List Rate} (h : ∀ r ∈ l, Rim r) {f : Rate → β} {ω : Rat → β}
    (hg : ∀ c ∈ cellsOf mid l, ∀ q, Btw (loC c.1) q (hiC c.1) → ω q = f c.2) : Ch (val LOW, false) (val HIGH, true) ((cellsOf mid l).map fun c => (c.1, f c.2)) ∧ Good ω ((cellsOf mid l).map fun c => (c.1, f c.2)) := by
  refine ⟨(cells_ch h).map, fun r hr q hq => ?_⟩
  obtain ⟨c, hc, e⟩ := List.mem_map.mp hr
  subst e
  exact hg c hc q hq
theorem cells_mem {mid : Rate → Rate → Rate} {l m : List Rate} (h : ∀ r ∈ l, Red r) (hm : ∀ r, r ∈ l ↔ r ∈ m) : cellsOf mid l = cellsOf mid m := by
  unfold cellsOf
  have e : sortR (LOW :: HIGH :: l) = sortR (LOW :: HIGH :: m) := by
    have red : ∀ {l : List Rate}, (∀ r ∈ l, Red r) → ∀ r ∈ LOW :: HIGH :: l, Red r := fun h r hr => by
      rcases List.mem_cons.mp hr with e | hr
      · exact e ▸ red_low
      · rcases List.mem_cons.mp hr with e | hr
        · exact e ▸ red_high
        · exact h r hr
    obtain ⟨a1, a2⟩ := sortR_ok (red h)
    obtain ⟨b1, b2⟩ := sortR_ok (red fun r hr => h r ((hm r).mpr hr))
    refine asc_unique a1 b1 fun y => ?_
    rw [a2, b2, List.mem_cons, List.mem_cons, List.mem_cons, List.mem_cons, hm]
  rw [e]
end AM
end Sec_M9
section Sec_M10
/-! The program's rows are the law's. -/
namespace AM
/-- the rate at a point -/
def rt (q : Rat) : Rate := (q.num, (q.den : Int))
theorem val_rt (q : Rat) : val (rt q) = q := by
  unfold val rt
  have := Rat.divInt_eq_div q.num (q.den : Int)
  simp only
  rw [← this, Rat.num_divInt_den]
theorem red_rt {q : Rat} (h : 0 < q) : Red (rt q) := by
  refine ⟨?_, ?_, ?_⟩
  · have h1 : 0 ≤ q.num := Rat.num_nonneg.mpr (by grind)
    have h2 : q.num ≠ 0 := fun e => by
      have := Rat.num_eq_zero.mp e
      grind
    show 0 < q.num
    omega
  · show 0 < (q.den : Int)
    have := q.den_pos
    omega
  · show Int.gcd q.num (q.den : Int) = 1
    have := q.reduced
    exact this
theorem val_LOW : val LOW = 1 / 4 := by decide +kernel
theorem val_HIGH : val HIGH = 4 := by decide +kernel
theorem rim_rt {q : Rat} (h1 : val LOW ≤ q) (h2 : q ≤ val HIGH) : Rim (rt q) := ⟨red_rt (by rw [val_LOW] at h1; grind), by rw [val_rt]; exact h1, by rw [val_rt]; exact h2⟩
theorem rt_val {r : Rate} (h : Rim r) : rt (val r) = r := red_eq (rim_rt h.lo h.hi).red h.red (val_rt _)
theorem le_iff {a b : Rate} (ha : 0 < a.2) (hb : 0 < b.2) : val a ≤ val b ↔ rle a b := by
  unfold rle
  have := val_lt hb ha
  unfold isLess at this
  rw [decide_eq_true_eq] at this
  constructor
  · intro h
    exact Int.not_lt.mp fun z => by have := this.mpr z; grind
  · intro h
    have : ¬ val b < val a := fun z => by have := this.mp z; omega
    grind
theorem rim_rng {r : Rate} (h : Rim r) : Rng r := by
  have h1 := (le_iff (a := LOW) (by decide) h.red.q).mp h.lo
  have h2 := (le_iff (b := HIGH) h.red.q (by decide)).mp h.hi
  unfold rle LOW at h1
  unfold rle HIGH at h2
  simp only at h1 h2
  exact ⟨h.red.p, h.red.q, by omega, by omega⟩
theorem rng_rim {r : Rate} (h : Red r) (hr : Rng r) : Rim r := by
  refine ⟨h, (le_iff (by decide) h.q).mpr ?_, (le_iff h.q (by decide)).mpr ?_⟩
  · unfold rle LOW
    have := hr.lo
    simp only
    omega
  · unfold rle HIGH
    have := hr.hi
    simp only
    omega
/-! ### zeros -/
theorem zero_nn (a b : Int × Int) : 0 ≤ (zeroOf a b).2 := by
  unfold zeroOf
  split <;> simp only <;> omega
def zq (a b : Int × Int) : Rat := ((zeroOf a b).1 : Rat) / ((zeroOf a b).2 : Rat)
theorem far_sign {a b : Int × Int} {r : Rate} (hr : 0 < r.2) (hz : 0 < (zeroOf a b).2) :
    (val r < zq a b ∧ ((a.2 - b.2 < 0 ∧ 0 < farOf a b r) ∨ (0 < a.2 - b.2 ∧ farOf a b r < 0))) ∨
    (val r = zq a b ∧ farOf a b r = 0) ∨
    (zq a b < val r ∧ ((a.2 - b.2 < 0 ∧ farOf a b r < 0) ∨ (0 < a.2 - b.2 ∧ 0 < farOf a b r))) := by
  have h1 := lt_iff (a := r.1) (c := (zeroOf a b).1) hr hz
  have h2 := lt_iff (a := (zeroOf a b).1) (c := r.1) hz hr
  have h3 := val_eq (a := r) (b := zeroOf a b) hr hz
  have key : (a.2 - b.2 < 0 ∧ farOf a b r = (zeroOf a b).1 * r.2 - r.1 * (zeroOf a b).2) ∨ (0 < a.2 - b.2 ∧ farOf a b r = r.1 * (zeroOf a b).2 - (zeroOf a b).1 * r.2) := by
    unfold zeroOf at hz ⊢
    unfold farOf
    split at hz
    · rename_i c
      rw [if_pos c]
      right
      simp only at hz ⊢
      refine ⟨by omega, ?_⟩
      grind
    · rename_i c
      rw [if_neg c]
      left
      simp only at hz ⊢
      refine ⟨by omega, ?_⟩
      grind
  unfold zq val at *
  generalize (r.1 : Rat) / (r.2 : Rat) = u at *
  generalize ((zeroOf a b).1 : Rat) / ((zeroOf a b).2 : Rat) = v at *
  generalize r.1 * (zeroOf a b).2 = s at *
  generalize (zeroOf a b).1 * r.2 = t at *
  rcases Int.lt_trichotomy s t with c | c | c
  · left
    refine ⟨h1.mpr c, ?_⟩
    rcases key with ⟨k, e⟩ | ⟨k, e⟩
    · exact .inl ⟨k, by omega⟩
    · exact .inr ⟨k, by omega⟩
  · right; left
    refine ⟨h3.mpr c, ?_⟩
    rcases key with ⟨k, e⟩ | ⟨k, e⟩ <;> omega
  · right; right
    refine ⟨h2.mpr c, ?_⟩
    rcases key with ⟨k, e⟩ | ⟨k, e⟩
    · exact .inl ⟨k, by omega⟩
    · exact .inr ⟨k, by omega⟩
theorem word_jump {a b : Int × Int} {r r' : Rate} (hr : Red r) (hr' : Red r') (h : val r ≤ val r') (hne : lawWord a b r ≠ lawWord a b r') : 0 < (zeroOf a b).2 ∧ val r ≤ zq a b ∧ zq a b ≤ val r' := by
  have hz := zero_nn a b
  by_cases z : (zeroOf a b).2 = 0
  · exfalso
    have e : a.2 = b.2 := by
      unfold zeroOf at z
      split at z <;> simp only at z <;> omega
    apply hne
    have f : ∀ {r : Rate}, farOf a b r = (a.1 - b.1) * r.2 := fun {r} => by
      unfold farOf
      rw [e, Int.sub_self, Int.zero_mul, Int.add_zero]
    unfold lawWord
    rw [f, f]
    have s : ∀ {r : Rate}, Red r → ((a.1 - b.1) * r.2 = 0 ↔ a.1 - b.1 = 0) ∧ (0 < (a.1 - b.1) * r.2 ↔ 0 < a.1 - b.1) := fun {r} h => by
      have := h.q
      refine ⟨⟨fun e => ?_, fun e => by rw [e, Int.zero_mul]⟩, ⟨fun e => Int.pos_of_mul_pos_left e h.q, fun e => Int.mul_pos e h.q⟩⟩
      rcases Int.mul_eq_zero.mp e with e | e <;> omega
    simp only [(s hr).1, (s hr').1, (s hr).2, (s hr').2]
  · have hz' : 0 < (zeroOf a b).2 := by omega
    refine ⟨hz', ?_⟩
    have s1 := far_sign (a := a) (b := b) (r := r) hr.q hz'
    have s2 := far_sign (a := a) (b := b) (r := r') hr'.q hz'
    revert hne
    unfold lawWord
    generalize farOf a b r = x at *
    generalize farOf a b r' = y at *
    generalize zq a b = t at *
    generalize val r = u at *
    generalize val r' = v at *
    intro hne
    by_cases c1 : t < u
    · exfalso
      apply hne
      rcases s1 with s1 | s1 | s1
      · grind
      · grind
      · rcases s2 with s2 | s2 | s2
        · grind
        · grind
        · rcases s1.2 with ⟨p1, p2⟩ | ⟨p1, p2⟩ <;> rcases s2.2 with ⟨p3, p4⟩ | ⟨p3, p4⟩
          · rw [if_neg (by omega), if_neg (by omega), if_neg (by omega), if_neg (by omega)]
          · omega
          · omega
          · rw [if_neg (by omega), if_pos (by omega), if_neg (by omega), if_pos (by omega)]
    · by_cases c2 : v < t
      · exfalso
        apply hne
        rcases s2 with s2 | s2 | s2
        · rcases s1 with s1 | s1 | s1
          · rcases s1.2 with ⟨p1, p2⟩ | ⟨p1, p2⟩ <;> rcases s2.2 with ⟨p3, p4⟩ | ⟨p3, p4⟩
            · rw [if_neg (by omega), if_pos (by omega), if_neg (by omega), if_pos (by omega)]
            · omega
            · omega
            · rw [if_neg (by omega), if_neg (by omega), if_neg (by omega), if_neg (by omega)]
          · grind
          · grind
        · grind
        · grind
      · grind
/-! ### mid points -/
theorem frac_lt {a b c d : Int} (hb : 0 < b) (hd : 0 < d) : (a : Rat) / (b : Rat) < (c : Rat) / (d : Rat) ↔ a * d < c * b := lt_iff hb hd
theorem mid_middle : Mid middle := fun a b ha hb h => by
  have h1 := (lt_iff ha.q hb.q).mp h
  have hp : 0 < a.1 * b.2 + b.1 * a.2 := by
    have := Int.mul_pos ha.p hb.q
    have := Int.mul_pos hb.p ha.q
    omega
  have hq : 0 < 2 * a.2 * b.2 := Int.mul_pos (by have := ha.q; omega) hb.q
  obtain ⟨r1, r2⟩ := red_lowest hp hq
  refine ⟨r1, ?_, ?_⟩
  · show val a < val (lowest _ _)
    rw [r2]
    refine (lt_iff ha.q hq).mpr ?_
    have e1 : a.1 * (2 * a.2 * b.2) = 2 * (a.1 * b.2) * a.2 := by grind
    rw [e1]
    exact Int.mul_lt_mul_of_pos_right (by omega) ha.q
  · show val (lowest _ _) < val b
    rw [r2]
    refine (lt_iff hq hb.q).mpr ?_
    have e1 : b.1 * (2 * a.2 * b.2) = 2 * (b.1 * a.2) * b.2 := by grind
    rw [e1]
    exact Int.mul_lt_mul_of_pos_right (by omega) hb.q
theorem mid_mediant : Mid mediant := fun a b ha hb h => by
  have h1 := (lt_iff ha.q hb.q).mp h
  have hp : 0 < a.1 + b.1 := by have := ha.p; have := hb.p; omega
  have hq : 0 < a.2 + b.2 := by have := ha.q; have := hb.q; omega
  obtain ⟨r1, r2⟩ := red_lowest hp hq
  refine ⟨r1, ?_, ?_⟩
  · show val a < val (lowest _ _)
    rw [r2]
    refine (lt_iff ha.q hq).mpr ?_
    rw [Int.mul_add, Int.add_mul, Int.mul_comm a.1 a.2]
    have : a.2 * a.1 = a.1 * a.2 := Int.mul_comm _ _
    omega
  · show val (lowest _ _) < val b
    rw [r2]
    refine (lt_iff hq hb.q).mpr ?_
    rw [Int.mul_add, Int.add_mul]
    omega
/-! ### both scripts -/
section
variable {W : Wd} {one other : List Deed} {p : Int × Int}
/-- what holds of both scripts -/
structure Two (W : Wd) (one other : List Deed) : Prop where
  d : ∀ d ∈ one ++ other, DV W d
  e : ∀ r ∈ scriptEdges W (one ++ other), Rim r
theorem edges_app : scriptEdges W (one ++ other) = scriptEdges W one ++ scriptEdges W other := List.flatMap_append
theorem Two.same (T : Two W one other) {q q' : Rat} (h1 : val LOW ≤ q) (h : q ≤ q') (h2 : q' ≤ val HIGH) (hno : ∀ e ∈ scriptEdges W (one ++ other), ¬ (q ≤ val e ∧ val e ≤ q')) :
    left W one p (rt q) = left W one p (rt q') ∧ left W other p (rt q) = left W other p (rt q') := by
  have r1 := rim_rt h1 (by grind)
  have r2 := rim_rt (q := q') (by grind) h2
  have hle : rle (rt q) (rt q') := (le_iff r1.red.q r2.red.q).mp (by rw [val_rt, val_rt]; exact h)
  have no : ∀ e ∈ scriptEdges W (one ++ other), ¬ (rle (rt q) e ∧ rle e (rt q')) := fun e he ⟨k1, k2⟩ => by
    have re := T.e e he
    have k1 := (le_iff r1.red.q re.red.q).mpr k1
    have k2 := (le_iff re.red.q r2.red.q).mpr k2
    rw [val_rt] at k1 k2
    exact hno e he ⟨k1, k2⟩
  rw [edges_app] at no
  exact ⟨left_same (fun d hd => T.d d (List.mem_append_left _ hd)) (rim_rng r1) (rim_rng r2) hle fun e he => no e (List.mem_append_left _ he),
    left_same (fun d hd => T.d d (List.mem_append_right _ hd)) (rim_rng r1) (rim_rng r2) hle fun e he => no e (List.mem_append_right _ he)⟩
def lawW (W : Wd) (one other : List Deed) (p : Int × Int) (q : Rat) : Word := lawWord (left W one p (rt q)) (left W other p (rt q)) (rt q)
theorem lawZero_rim {a b : Int × Int} : ∀ z ∈ lawZero a b, Rim z ∧ val z = zq a b ∧ 0 < (zeroOf a b).2 := fun z hz => by
  unfold lawZero at hz
  split at hz
  · exact absurd hz (by simp)
  · rename_i c
    have := zero_nn a b
    obtain ⟨r1, r2⟩ := red_lowest (t := (zeroOf a b).1) (b := (zeroOf a b).2) (by omega) (by omega)
    rw [List.mem_singleton.mp hz]
    refine ⟨⟨r1, ?_, ?_⟩, r2, by omega⟩
    · rw [r2]
      have := (lt_iff (a := (zeroOf a b).1) (b := (zeroOf a b).2) (c := 1) (d := 4) (by omega) (by omega))
      have e : val LOW = ((1 : Int) : Rat) / ((4 : Int) : Rat) := rfl
      rw [e]
      have k : ¬ ((zeroOf a b).1 : Rat) / ((zeroOf a b).2 : Rat) < ((1 : Int) : Rat) / ((4 : Int) : Rat) := fun z => by have := this.mp z; omega
      grind
    · rw [r2]
      have := (lt_iff (a := 4) (b := 1) (c := (zeroOf a b).1) (d := (zeroOf a b).2) (by omega) (by omega))
      have e : val HIGH = ((4 : Int) : Rat) / ((1 : Int) : Rat) := rfl
      rw [e]
      have k : ¬ ((4 : Int) : Rat) / ((1 : Int) : Rat) < ((zeroOf a b).1 : Rat) / ((zeroOf a b).2 : Rat) := fun z => by have := this.mp z; omega
      grind
theorem zero_mem {a b : Int × Int} (hz : 0 < (zeroOf a b).2) (h1 : val LOW ≤ zq a b) (h2 : zq a b ≤ val HIGH) : ∃ z ∈ lawZero a b, val z = zq a b := by
  have e1 : ¬ (zeroOf a b).1 * 4 < (zeroOf a b).2 := fun c => by
    have := (lt_iff (a := (zeroOf a b).1) (b := (zeroOf a b).2) (c := 1) (d := 4) (by omega) (by omega)).mpr (by omega)
    have e : val LOW = ((1 : Int) : Rat) / ((4 : Int) : Rat) := rfl
    rw [e] at h1
    unfold zq at h1
    grind
  have e2 : ¬ 4 * (zeroOf a b).2 < (zeroOf a b).1 := fun c => by
    have := (lt_iff (a := 4) (b := 1) (c := (zeroOf a b).1) (d := (zeroOf a b).2) (by omega) (by omega)).mpr (by omega)
    have e : val HIGH = ((4 : Int) : Rat) / ((1 : Int) : Rat) := rfl
    rw [e] at h2
    unfold zq at h2
    grind
  obtain ⟨r1, r2⟩ := red_lowest (t := (zeroOf a b).1) (b := (zeroOf a b).2) (by omega) (by omega)
  refine ⟨_, ?_, r2⟩
  unfold lawZero
  rw [if_neg (by omega)]
  exact List.mem_singleton.mpr rfl
theorem rims_rim (T : Two W one other) : ∀ r ∈ lawRims W one other p, Rim r := fun r hr => by
  rcases List.mem_append.mp hr with h | h
  · exact T.e r h
  · obtain ⟨c, hc, h⟩ := List.mem_flatMap.mp h
    exact (lawZero_rim r h).1
theorem Two.zero (T : Two W one other) {q : Rat} (h1 : val LOW ≤ q) (h2 : q ≤ val HIGH) {z : Rate} (hz : z ∈ lawZero (left W one p (rt q)) (left W other p (rt q))) : z ∈ lawRims W one other p := by
  obtain ⟨c, hc, hq⟩ := (cells_ch (mid := mediant) T.e).at (q := q) ⟨by
    unfold cle; simp only; grind, by unfold cle; simp only; grind⟩
  have := cells_good mid_mediant T.e (f := fun r => (left W one p r, left W other p r)) (ω := fun q => (left W one p (rt q), left W other p (rt q))) (fun r hr => by rw [rt_val hr]) (fun q q' a b d hno => by
    obtain ⟨e1, e2⟩ := T.same (p := p) a b d hno
    simp only [e1, e2]) c hc q hq
  simp only [Prod.mk.injEq] at this
  rw [this.1, this.2] at hz
  exact List.mem_append_right _ (List.mem_flatMap.mpr ⟨c, hc, hz⟩)
theorem due_ok (T : Two W one other) : Ch (val LOW, false) (val HIGH, true) (lawDue W one other p) ∧ Good (lawW W one other p) (lawDue W one other p) ∧ Sep (lawDue W one other p) := by
  have hr := rims_rim (p := p) T
  obtain ⟨a, b⟩ := cells_map (mid := mediant) hr (f := fun r => lawWord (left W one p r) (left W other p r) r) (ω := lawW W one other p) (cells_good mid_mediant hr (f := fun r => lawWord (left W one p r) (left W other p r) r) (ω := lawW W one other p) (fun r hr => by
    unfold lawW
    rw [rt_val hr]) fun q q' h1 h2 h3 hno => by
      have r1 := rim_rt h1 (by grind)
      have r2 := rim_rt (q := q') (by grind) h3
      obtain ⟨e1, e2⟩ := T.same (p := p) h1 h2 h3 fun e he => hno e (List.mem_append_left _ he)
      unfold lawW
      rw [← e1, ← e2]
      refine Decidable.byContradiction fun hne => ?_
      obtain ⟨z1, z2, z3⟩ := word_jump r1.red r2.red (by rw [val_rt, val_rt]; exact h2) hne
      rw [val_rt] at z2 z3
      obtain ⟨z, hz, ez⟩ := zero_mem z1 (by grind) (by grind)
      exact hno z (T.zero h1 (by grind) hz) (by rw [ez]; exact ⟨z2, z3⟩))
  exact lawJoined_ok a b
/-! ### flipping -/
theorem far_flip {a b : Int × Int} {r : Rate} : farOf b a r = - farOf a b r := by
  unfold farOf
  grind
theorem word_flip {a b : Int × Int} {r : Rate} : lawWord b a r = (lawWord a b r).flip := by
  unfold lawWord
  rw [far_flip]
  generalize farOf a b r = x
  rcases Int.lt_trichotomy x 0 with c | c | c
  · rw [if_neg (by omega), if_pos (by omega), if_neg (by omega), if_neg (by omega)]
    rfl
  · rw [if_pos (by omega), if_pos (by omega)]
    rfl
  · rw [if_neg (by omega), if_neg (by omega), if_neg (by omega), if_pos (by omega)]
    rfl
theorem Two.flip (T : Two W one other) : Two W other one := ⟨fun d hd => T.d d (by
  rcases List.mem_append.mp hd with h | h
  · exact List.mem_append_right _ h
  · exact List.mem_append_left _ h), fun r hr => T.e r (by
  rw [edges_app] at hr ⊢
  rcases List.mem_append.mp hr with h | h
  · exact List.mem_append_right _ h
  · exact List.mem_append_left _ h)⟩
theorem sep_flip : ∀ {l : List (Span × Word)}, Sep l → Sep (l.map fun r => (r.1, r.2.flip))
  | [], _ => trivial
  | [_], _ => trivial
  | r :: r' :: l, h => ⟨fun e => h.1 (by
      simp only at e
      revert e
      cases r.2 <;> cases r'.2 <;> simp [Word.flip]), sep_flip h.2⟩
theorem due_flip (T : Two W one other) : lawDue W other one p = (lawDue W one other p).map fun r => (r.1, r.2.flip) := by
  obtain ⟨a, b, c⟩ := due_ok (p := p) T
  obtain ⟨a', b', c'⟩ := due_ok (p := p) T.flip
  refine chain_unique a' a.map b' (fun r hr q hq => ?_) c' (sep_flip c)
  obtain ⟨x, hx, e⟩ := List.mem_map.mp hr
  subst e
  show lawWord _ _ _ = _
  rw [word_flip]
  exact congrArg Word.flip (b x hx q hq)
/-! ### the program's rows -/
theorem wordFor_eq {a b : Int × Int} {r : Rate} : wordFor a b r = lawWord b a r := by
  unfold wordFor lawWord
  rw [far_flip (a := a) (b := b)]
  generalize farOf a b r = x
  rcases Int.lt_trichotomy x 0 with c | c | c
  · rw [if_neg (by omega), if_pos (by omega), if_neg (by omega), if_pos (by omega)]
  · rw [if_pos (by omega), if_pos (by omega)]
  · rw [if_neg (by omega), if_neg (by omega), if_neg (by omega), if_neg (by omega)]
theorem zero_flip {a b : Int × Int} (h : 0 < (zeroOf b a).2) : zeroOf b a = zeroOf a b := by
  unfold zeroOf at h ⊢
  split at h
  · rename_i c
    rw [if_pos c, if_neg (by omega)]
    exact Prod.ext (by simp only; omega) (by simp only; omega)
  · rename_i c
    simp only at h
    rw [if_neg c, if_pos (by omega)]
    exact Prod.ext (by simp only; omega) (by simp only; omega)
theorem word_costs {r r' : Rate} : wordFor (costs W one p r') (costs W other p r') r = lawWord (left W one p r') (left W other p r') r := by
  rw [wordFor_eq]
  have : farOf (costs W other p r') (costs W one p r') r = farOf (left W one p r') (left W other p r') r := by
    unfold farOf costs
    grind
  unfold lawWord
  rw [this]
theorem parted_ok {s : Span} {a b : Int × Int} {ω : Rat → Word} (h1 : Rim s.1) (h2 : Rim s.2.2.1) (hs : clt (loC s) (hiC s)) (l1 : cle (val LOW, false) (loC s)) (l2 : cle (hiC s) (val HIGH, true))
    (hω : ∀ q, Btw (loC s) q (hiC s) → ω q = wordFor a b (rt q)) : Ch (loC s) (hiC s) (parted s a b) ∧ Good ω (parted s a b) := by
  have rim : ∀ r ∈ within (partZero a b ++ [s.1, s.2.2.1]), Rim r := fun r hr => by
    obtain ⟨m1, m2⟩ := within_in.mp hr
    rcases List.mem_append.mp m1 with m | m
    · unfold partZero at m
      split at m
      · rename_i c
        have r1 := (red_lowest c.2 c.1).1
        rw [List.mem_singleton.mp m] at m2 ⊢
        unfold lawIn at m2
        rw [Bool.and_eq_true, decide_eq_true_iff, decide_eq_true_iff] at m2
        exact rng_rim r1 ⟨r1.p, r1.q, m2.1, m2.2⟩
      · exact absurd m (by simp)
    · rcases List.mem_cons.mp m with m | m
      · exact m ▸ h1
      · rw [List.mem_singleton.mp m]
        exact h2
  have hc := cells_ch (mid := middle) rim
  constructor
  · have := Ch.meet (g := fun c => wordFor a b c.2) hs h1.red h2.red hc
    rw [clamp_lo hs l1, clamp_hi hs l2] at this
    exact this
  · refine good_meet h1.red h2.red (fun r hr => ⟨(hc.red r hr).1, (hc.red r hr).2.1⟩) fun r hr q hq hq' => ?_
    rw [hω q hq]
    refine cells_good mid_middle rim (f := wordFor a b) (ω := fun q => wordFor a b (rt q)) (fun r hr => by rw [rt_val hr]) (fun q q' k1 k2 k3 hno => ?_) r hr q hq'
    have r1 := rim_rt k1 (by grind)
    have r2 := rim_rt (q := q') (by grind) k3
    rw [wordFor_eq, wordFor_eq]
    refine Decidable.byContradiction fun hne => ?_
    obtain ⟨z1, z2, z3⟩ := word_jump r1.red r2.red (by rw [val_rt, val_rt]; exact k2) hne
    rw [val_rt] at z2 z3
    have ez := zero_flip z1
    unfold zq at z2 z3
    rw [ez] at z1 z2 z3
    have zp : 0 < (zeroOf a b).1 := by
      have := (lt_iff (a := (zeroOf a b).1) (b := (zeroOf a b).2) (c := 1) (d := 4) (by omega) (by omega))
      have e : val LOW = ((1 : Int) : Rat) / ((4 : Int) : Rat) := rfl
      rw [e] at k1
      have : ¬ (zeroOf a b).1 * 4 < 1 * (zeroOf a b).2 := fun c => by have := this.mpr c; grind
      omega
    obtain ⟨r3, r4⟩ := red_lowest zp z1
    have rz : Rim (lowest (zeroOf a b).1 (zeroOf a b).2) := ⟨r3, by rw [r4]; grind, by rw [r4]; grind⟩
    refine hno (lowest (zeroOf a b).1 (zeroOf a b).2) (within_in.mpr ⟨List.mem_append_left _ ?_, ?_⟩) (by rw [r4]; exact ⟨z2, z3⟩)
    · unfold partZero
      rw [if_pos ⟨z1, zp⟩]
      exact List.mem_singleton.mpr rfl
    · have := rim_rng rz
      unfold lawIn
      rw [Bool.and_eq_true, decide_eq_true_iff, decide_eq_true_iff]
      exact ⟨this.lo, this.hi⟩
theorem ch_rim {α : Type} {l : List (Span × α)} (h : Ch (val LOW, false) (val HIGH, true) l) : ∀ r ∈ l, Rim r.1.1 ∧ Rim r.1.2.2.1 ∧ clt (loC r.1) (hiC r.1) ∧ cle (val LOW, false) (loC r.1) ∧ cle (hiC r.1) (val HIGH, true) := fun r hr => by
  obtain ⟨a, b, c, d, e⟩ := h.red r hr
  have c' := c
  have d' := d
  have e' := e
  unfold clt loC hiC at c'
  unfold cle loC at d'
  unfold cle hiC at e'
  simp only at c' d' e'
  exact ⟨⟨a, by grind, by grind⟩, ⟨b, by grind, by grind⟩, c, d, e⟩
theorem cheaper_due (T : Two W one other) : cheaperRows W one other p = lawDue W one other p := by
  obtain ⟨a, b⟩ := cells_map (mid := middle) T.e (f := fun r => (costs W one p r, costs W other p r)) (ω := fun q => (costs W one p (rt q), costs W other p (rt q))) (cells_good mid_middle T.e (f := fun r => (costs W one p r, costs W other p r)) (ω := fun q => (costs W one p (rt q), costs W other p (rt q))) (fun r hr => by rw [rt_val hr]) fun q q' h1 h2 h3 hno => by
    obtain ⟨e1, e2⟩ := T.same (p := p) h1 h2 h3 hno
    simp only [costs, e1, e2])
  obtain ⟨c, d, _⟩ := lawJoined_ok a b
  have el : leftRows W one other p = lawJoined ((cellsOf middle (scriptEdges W (one ++ other))).map fun c => (c.1, (costs W one p c.2, costs W other p c.2))) := joined_eq a
  rw [← el] at c d
  have hp : ∀ r ∈ leftRows W one other p, Ch (loC r.1) (hiC r.1) (parted r.1 r.2.1 r.2.2) ∧ Good (lawW W one other p) (parted r.1 r.2.1 r.2.2) := fun r hr => by
    obtain ⟨r1, r2, r3, r4, r5⟩ := ch_rim c r hr
    refine parted_ok r1 r2 r3 r4 r5 fun q hq => ?_
    have := d r hr q hq
    rw [← this]
    show lawWord _ _ _ = wordFor _ _ _
    rw [word_costs]
  have e := c.flat fun r hr => (hp r hr).1
  have g : Good (lawW W one other p) ((leftRows W one other p).flatMap fun row => parted row.1 row.2.1 row.2.2) := fun x hx q hq => by
    obtain ⟨r, hr, hx⟩ := List.mem_flatMap.mp hx
    exact (hp r hr).2 x hx q hq
  obtain ⟨u1, u2, u3⟩ := lawJoined_ok e g
  obtain ⟨v1, v2, v3⟩ := due_ok (p := p) T
  show joined _ = _
  rw [joined_eq e]
  exact chain_unique u1 v1 u2 v2 u3 v3
end
end AM
end Sec_M10
section Sec_E1
set_option maxRecDepth 100000
/-! Encodings; helpers for loops. -/
namespace Kx
open PySem PySem.Spec PyProof.Rows L2 DL AM
def ms : Mode → Str
  | .down => "down"
  | .up => "up"
  | .near => "near"
  | .nine => "nine"
def eR (r : Int × Int) : PyData := .tuple [.int r.1, .int r.2]
def eRo (o : Ro) : PyData := .tuple [.str (ms o.m), .int o.s]
def eRu (u : Ru) : PyData := .tuple [.str (ms u.m), .int u.s, .int u.c, .int u.k]
def eORu : Option Ru → PyData
  | none => .none
  | some u => eRu u
def eOff (o : Office) : PyData := .tuple [eORu o.1, eORu o.2]
def eShop (s : Shop) : PyData := .tuple [eRo s.1, eRo s.2.1, .bool s.2.2]
def eW (w : Wd) : PyData := .tuple [.tuple (w.offices.map eOff), .tuple (w.shops.map eShop)]
def wayS (back : Bool) : Str := if back then "back" else "into"
def homeS (home : Bool) : Str := if home then "home" else "far"
def eD : Deed → PyData
  | .ex back i n => .tuple [.str (wayS back), .int i, .int n]
  | .over i p m => .tuple [.str "over", .int i, .int p, .int m]
  | .buy i p home => .tuple [.str "buy", .int i, .int p, .str (homeS home)]
  | .ret i p home => .tuple [.str "return", .int i, .int p, .str (homeS home)]
def eDs (ds : List Deed) : PyData := .tuple (ds.map eD)
def eStand (st : Stand) : PyData := .tuple [.int st.home, .int st.far, .tuple (st.things.map eR)]
def eStandL (st : Stand) : PyData := .tuple [.int st.home, .int st.far, .list (st.things.map eR)]
def eSpan (s : Span) : PyData := .tuple [eR s.1, .bool s.2.1, eR s.2.2.1, .bool s.2.2.2]
def wordS : Word → Str
  | .one => "one"
  | .other => "other"
  | .same => "same"
def eWord (w : Word) : PyData := .str (wordS w)
def ePair (q : Pair) : PyData := .tuple [eR q.1, eR q.2]
def eRow {α : Type} (e : α → PyData) (row : Span × α) : PyData := .tuple [eSpan row.1, e row.2]
def eO {α : Type} (e : α → PyData) : Option α → PyData
  | none => .none
  | some x => e x
def eON : Option Nat → PyData
  | none => .none
  | some n => .int n
theorem sh_R (a : Int × Int) : SeqAt.shaped (eR a) = true := by simp [eR, SeqAt.shaped, PyData.canLay0, PyData.canLayAll0, PyData.depth, PyData.depthAll]
theorem eqv_R (a b : Int × Int) : PyData.eqv (eR a) (eR b) = decide (a = b) := by
  by_cases h1 : a.1 = b.1 <;> by_cases h2 : a.2 = b.2 <;> simp [eR, PyData.eqv, PyData.eqvAll, Prod.ext_iff, h1, h2]
/-! ### loops -/
section
variable {X : Cx} {G : Fr0} {r r1 : Rho}
/-- a loop that only adds to a list: ρ tells the slots by the list so far -/
theorem for_acc {α β : Type} {tg : Expr} {body : List Stmt} (encA : α → PyData) (ρ : List β → Rho) (f : α → List β) (N : Nat) : ∀ (es : List α) (acc : List β), acc.length + (es.flatMap f).length ≤ N →
    (∀ x ∈ es, ∀ acc, acc.length + (f x).length ≤ N → FStep X G tg body (ρ acc) (encA x) (.nx (ρ (acc ++ f x)))) → ForR (FStep X G tg body) (ρ acc) (es.map encA) (.nx (ρ (acc ++ es.flatMap f)))
  | [], acc, _, _ => by
    rw [List.flatMap_nil, List.append_nil]
    exact .nil
  | x :: es, acc, hl, h => by
    rw [List.flatMap_cons, List.length_append] at hl
    rw [List.flatMap_cons, ← List.append_assoc]
    refine .step (h x List.mem_cons_self acc (by omega)) (for_acc encA ρ f N es (acc ++ f x) (by rw [List.length_append]; omega) fun y hy => h y (List.mem_cons_of_mem _ hy))
/-- a comprehension whose turns leave the slots as they were -/
theorem comp_acc {α β : Type} {S : Rho → PyData → Option PyData → Rho → Prop} {ρ : Rho} (encA : α → PyData) (encB : β → PyData) (f : α → Option β) : ∀ (es : List α), (∀ x ∈ es, S ρ (encA x) ((f x).map encB) ρ) →
    CompR S ρ (es.map encA) ((es.filterMap f).map encB) ρ
  | [], _ => .nil
  | x :: es, h => by
    have h1 := h x List.mem_cons_self
    have h2 := comp_acc encA encB f es fun y hy => h y (List.mem_cons_of_mem _ hy)
    rw [List.map_cons, List.filterMap_cons]
    cases hf : f x with
    | none => rw [hf] at h1; exact .skip h1 h2
    | some y => rw [hf] at h1; exact .take h1 h2
theorem comp_map {α β : Type} {S : Rho → PyData → Option PyData → Rho → Prop} {ρ : Rho} (encA : α → PyData) (encB : β → PyData) (f : α → β) : ∀ (es : List α), (∀ x ∈ es, S ρ (encA x) (some (encB (f x))) ρ) →
    CompR S ρ (es.map encA) ((es.map f).map encB) ρ
  | [], _ => .nil
  | x :: es, h => .take (h x List.mem_cons_self) (comp_map encA encB f es fun y hy => h y (List.mem_cons_of_mem _ hy))
theorem comp_filter {α : Type} {S : Rho → PyData → Option PyData → Rho → Prop} {ρ : Rho} (enc : α → PyData) (p : α → Bool) : ∀ (es : List α), (∀ x ∈ es, S ρ (enc x) (if p x = true then some (enc x) else none) ρ) →
    CompR S ρ (es.map enc) ((es.filter p).map enc) ρ
  | [], _ => .nil
  | x :: es, h => by
    have h1 := h x List.mem_cons_self
    have h2 := comp_filter enc p es fun y hy => h y (List.mem_cons_of_mem _ hy)
    rw [List.map_cons, List.filter_cons]
    by_cases hp : p x = true
    · rw [if_pos hp] at h1 ⊢; exact .take h1 h2
    · rw [if_neg hp] at h1 ⊢; exact .skip h1 h2
/-- one turn that takes its item -/
theorem cTake {Y : Cx} {scope : Scope} {vs : List Nat} {tg elt : Expr} {r ra rc r' : Rho} {x y : PyData} {ts : List Nat} (hg : Bk Y scope fun Z G => DG Z G r tg x ra ts) (hts : ∀ j ∈ ts, j ∈ vs := by decide) (he : Bk Y scope fun Z G => DE Z G ra elt y rc) (hr : r' = wipeR rc vs := by rfl) :
    CTurn Y scope vs tg [] elt r x (some y) r' := ⟨ra, ts, ra, true, hg, hts, fun _ _ _ _ _ _ => ts0, .inl ⟨rfl, y, rc, rfl, he, hr⟩⟩
theorem cIf {Y : Cx} {scope : Scope} {vs : List Nat} {tg elt c : Expr} {r ra rc r' : Rho} {x y : PyData} {k : Bool} {ts : List Nat} (hg : Bk Y scope fun Z G => DG Z G r tg x ra ts) (hc : Bk Y scope fun Z G => DT Z G ra c k ra) (he : k = true → Bk Y scope fun Z G => DE Z G ra elt y rc)
    (hts : ∀ j ∈ ts, j ∈ vs := by decide) (hr : r' = wipeR rc vs := by rfl) (hr2 : r' = wipeR ra vs := by rfl) : CTurn Y scope vs tg [c] elt r x (if k = true then some y else none) r' := by
  refine ⟨ra, ts, ra, k, hg, hts, fun G s H C cl fp => ts1 (hc G s H C cl fp), ?_⟩
  cases k with
  | true => exact .inl ⟨rfl, y, rc, rfl, he rfl, hr⟩
  | false => exact .inr ⟨rfl, rfl, hr2⟩
/-- a while loop by a function of its state -/
theorem whR_fn {S : Type} {T : Rho → Bool → Rho → Prop} {B : Rho → Rho → Prop} (ρ : S → Rho) (I : S → Prop) (c : S → Bool) (next res : S → S) (m : S → Nat) (hT : ∀ s, I s → T (ρ s) (c s) (ρ s)) (hB : ∀ s, I s → c s = true → B (ρ s) (ρ (next s)))
    (hI : ∀ s, I s → c s = true → I (next s)) (hm : ∀ s, I s → c s = true → m (next s) < m s) (h0 : ∀ s, I s → c s = false → res s = s) (h1 : ∀ s, I s → c s = true → res s = res (next s)) : ∀ (n : Nat) (s : S), I s → m s ≤ n → WhR T B n (ρ s) (ρ (res s)) := by
  intro n
  induction n with
  | zero =>
    intro s hs hn
    cases hc : c s with
    | false =>
      rw [h0 s hs hc]
      exact .done (hc ▸ hT s hs)
    | true => have := hm s hs hc; omega
  | succ n ih =>
    intro s hs hn
    cases hc : c s with
    | false =>
      rw [h0 s hs hc]
      exact .done (hc ▸ hT s hs)
    | true =>
      rw [h1 s hs hc]
      exact .step (hc ▸ hT s hs) (hB s hs hc) (ih (next s) (hI s hs hc) (by have := hm s hs hc; omega))
def noMB (r : Rho) (js : List Nat) : Bool := js.all fun j => match r[j]? with
  | some (.m _ _) => false
  | _ => true
theorem noM {r : Rho} {js : List Nat} (h : noMB r js = true) : ∀ j ∈ js, ∀ ow zs, r[j]? ≠ some (Sv.m ow zs) := fun j hj ow zs e => by
  have := List.all_eq_true.mp h j hj
  rw [e] at this
  cases this
theorem dI {r2 : Rho} {a b : Expr} {pos : Pos} {xs : List PyData} {i : Int} {x : PyData} (ha : DE X G r a (.tuple xs) r1) (hb : DE X G r1 b (.int i) r2) (he : atI xs i = some x := by rfl) (hs : PlainIx b := by exact fun _ _ => rfl) : DE X G r (.Subscript a b pos) x r2 := dIxT he ha hb hs
theorem fgt_u : ∀ (r : Rho) (i : Nat), Fgt r (r.set i .u)
  | [], _ => .nil
  | s :: r, 0 => .drop (Fgt.refl r)
  | s :: r, i + 1 => .keep (fgt_u r i)
theorem Fgt.trans : ∀ {a b c : Rho}, Fgt a b → Fgt b c → Fgt a c := by
  intro a b c h
  induction h generalizing c with
  | nil => exact fun g => g
  | keep _ ih =>
    intro g
    cases g with
    | keep g => exact .keep (ih g)
    | drop g => exact .drop (ih g)
  | drop _ ih =>
    intro g
    cases g with
    | keep g => exact .drop (ih g)
    | drop g => exact .drop (ih g)
def wipeU (r : Rho) (js : List Nat) : Rho := js.foldl (fun r j => r.set j .u) r
theorem fgt_wipe : ∀ (js : List Nat) (r : Rho), Fgt r (wipeU r js)
  | [], r => Fgt.refl r
  | j :: js, r => Fgt.trans (fgt_u r j) (fgt_wipe js (r.set j .u))
theorem dLst1 {r2 : Rho} {e : Expr} {pos : Pos} {x : PyData} (h : DE X G r e x r2) (hs : starEach [e] X.env = (false, eval e X.env) :: starEach [] X.env := by rfl) : DE X G r (.List [e] pos) (.list [x]) r2 := dLst (by show 1 ≤ sizeLine; decide) (aC h aN hs)
theorem dTup1 {r2 : Rho} {e : Expr} {k : Nat} {pos : Pos} {x : PyData} (h : DE X G r e x r2) (hs : starEach [e] X.env = (false, eval e X.env) :: starEach [] X.env := by rfl) : DE X G r (.Tuple [e] k pos) (.tuple [x]) r2 := dTup (by show 1 ≤ sizeLine; decide) (aC h aN hs)
theorem atI_nat {α : Type} {l : List α} {i : Nat} {x : α} (h : l[i]? = some x) : atI l (i : Int) = some x := by
  have hl := (List.getElem?_eq_some_iff.mp h).1
  unfold atI ixN
  rw [if_pos (by omega), if_pos (by omega)]
  simpa using h
theorem iTo {tg it : Expr} {xs ys : List PyData} (h : DI X G r tg it xs r1) (e : xs = ys) : DI X G r tg it ys r1 := e ▸ h
/-- a statement that may end the block -/
theorem bOr {st : Stmt} {rest : List Stmt} {o o2 : Out} (h : DS X G r st o) (hn : ∀ r1, o = .nx r1 → DB X G r1 rest o2) (hr : ∀ x b, o = .rt x b → o2 = .rt x b) (hf : ∀ xs, o ≠ .fr xs) : DB X G r (st :: rest) o2 := by
  cases o with
  | nx r1 => exact bC h (hn r1 rfl)
  | rt x b =>
    rw [hr x b rfl]
    exact bR h
  | fr xs => exact absurd rfl (hf xs)
/-- the block's end: the slots js are forgotten -/
theorem bW (js : List Nat) : DB X G r [] (.nx (wipeU r js)) := bFg bN (fgt_wipe js r)
theorem map_snoc {α : Type} {e : α → PyData} (acc : List α) (x : α) : PyData.list (acc.map e ++ [e x]) = .list ((acc ++ [x]).map e) := by rw [List.map_append]; rfl
theorem map_app {α : Type} {e : α → PyData} (acc l : List α) : PyData.list (acc.map e ++ l.map e) = .list ((acc ++ l).map e) := by rw [List.map_append]
end
end Kx
end Sec_E1
section Sec_P1
set_option maxRecDepth 100000
/-! numbers.py and gives. -/
namespace Kx
open PySem PySem.Spec PyProof.Rows L2 DL AM
local macro_rules | `(tactic| trivial) => `(tactic| first | assumption | (simp only [CMul, CDivW, CMulW]; omega))
variable {P : Program} {w : World} {K : PySem.W.Frag} {mg : Str → Option Value} {base : Heap}
/-- the divisor of a floor division is no giant -/
theorem cdiv {i j : Int} (h0 : 0 < j) (h : j < 2 ^ 200) : CDivW i j := by
  refine ⟨h0, ?_⟩
  have h1 : j.natAbs < 2 ^ 200 := by omega
  have h2 : j.natAbs ≠ 0 := by omega
  have h3 := (Nat.log2_lt h2).mpr h1
  omega
theorem gcd_pos {t b : Int} (hb : 0 < b) : 0 < gcdI t b := by
  unfold gcdI
  have : Int.gcd t b ≠ 0 := fun h => by
    have := (Int.gcd_eq_zero_iff.mp h).2
    omega
  omega
theorem gcd_le {t b : Int} (hb : 0 < b) : gcdI t b ≤ b := by
  unfold gcdI
  have := Int.gcd_dvd_right (a := t) (b := b)
  exact Int.le_of_dvd hb this
theorem gcd_step {a b : Int} (ha : 0 ≤ a) (hb : 0 < b) : gcdI a b = gcdI b (a % b) := by
  obtain ⟨n, rfl⟩ := Int.eq_ofNat_of_zero_le ha
  obtain ⟨m, rfl⟩ := Int.eq_ofNat_of_zero_le (Int.le_of_lt hb)
  unfold gcdI
  rw [← Int.natCast_emod, Int.gcd_natCast_natCast, Int.gcd_natCast_natCast, Nat.gcd_comm n m, Nat.gcd_comm m (n % m), ← Nat.gcd_rec]
theorem gcd_zero {a : Int} (ha : 0 ≤ a) : gcdI a 0 = a := by
  unfold gcdI
  rw [Int.gcd_zero_right]
  omega
theorem gcd_abs (t b : Int) : gcdI (if t < 0 then -t else t) b = gcdI t b := by
  unfold gcdI
  split
  · rw [Int.neg_gcd]
  · rfl
theorem sc_lowest : FnScope ["top", "below", "one", "other"] ["top", "below"] (defScope (top 5)) := ⟨rfl, rfl, rfl, by decide +kernel, rfl, by decide +kernel, by decide +kernel⟩
theorem c_lowest (E : En K mg) {t b : Int} (hb : 0 < b) (hb2 : b < 2 ^ 200) : Cal P w K mg base 1 "lowest" [.int t, .int b] (eR (lowest t b)) := by
  obtain ⟨f, fd, F, hm⟩ := E.f_lowest
  refine cal_of (bg := []) F sc_lowest hm (fun _ _ _ _ _ _ us hl => match us, hl with | [_, _], _ => rfl) rfl (by decide) fun f cdv A outer s H Ex G hr => ?_
  have hg := gcd_pos (t := t) hb
  have hg2 := gcd_le (t := t) hb
  refine bC (sPar 2 3 (aC (dAbs E.b_abs (aC (dv 0) aN)) (aC (dv 1) aN)) sc_lowest.nd) ?_
  refine bC (r1 := [.d (.int t), .d (.int b), .d (.int (gcdI t b)), .d (.int 0)]) (sWh (n := b.toNat) ?_) ?_
  · have h := whR_fn (S := Int × Int) (T := ?_) (B := ?_) (fun s => [.d (.int t), .d (.int b), .d (.int s.1), .d (.int s.2)]) (fun s => 0 ≤ s.1 ∧ 0 ≤ s.2) (fun s => decide (0 < s.2)) (fun s => (s.2, s.1 % s.2)) (fun s => (gcdI s.1 s.2, 0)) (fun s => s.2.toNat) ?_ ?_ ?_ ?_ ?_ ?_
      b.toNat (if t < 0 then -t else t, b) ⟨by show 0 ≤ (if t < 0 then -t else t); split <;> omega, Int.le_of_lt hb⟩ (Nat.le_refl _)
    · dsimp only at h
      rw [gcd_abs] at h
      exact h
    · exact fun s _ => tGt (dv 3) di
    · exact fun s _ hc => b1 (sPar 2 3 (aC (dv 3) (aC (dMod (of_decide_eq_true hc) (dv 2) (dv 3)) aN)) sc_lowest.nd)
    · exact fun s hs hc => ⟨hs.2, Int.emod_nonneg _ (by have := of_decide_eq_true hc; omega)⟩
    · intro s hs hc
      have h := of_decide_eq_true hc
      have h1 := Int.emod_nonneg s.1 (b := s.2) (by omega)
      have h2 := Int.emod_lt_of_pos s.1 h
      dsimp only
      omega
    · intro s hs hc
      have h := of_decide_eq_false hc
      have e : s.2 = 0 := by have := hs.2; omega
      exact Prod.ext (by dsimp only; rw [e]; exact gcd_zero hs.1) e.symm
    · intro s hs hc
      have h := of_decide_eq_true hc
      dsimp only
      rw [gcd_step hs.1 h]
  · exact b1 (sRet (dTup2 (aC (dDiv (cdiv hg (by omega)) (dv 0) (dv 2)) (aC (dDiv (cdiv hg (by omega)) (dv 1) (dv 2)) aN))))
theorem u65 {k : Nat} {A : Around} (r : Room k A) : A.units + 65 < cLine := by have := r.un; omega
theorem sh_ms (m : Mode) : SeqAt.shaped (.str (ms m)) = true := by cases m <;> decide +kernel
abbrev Sc (N ps : List Str) (i : Nat) : Prop := FnScope N ps (defScope (top i))
structure Sm (r : Rate) : Prop where
  p : 0 < r.1
  q : 0 < r.2
  P : r.1 < 2 ^ 60
  Q : r.2 < 2 ^ 60
theorem mul_lt' {a b A B : Int} (ha : 0 ≤ a) (hb : 0 ≤ b) (h1 : a < A) (h2 : b < B) : a * b < A * B := by
  have h3 : a * b ≤ a * B := Int.mul_le_mul_of_nonneg_left (Int.le_of_lt h2) ha
  have h4 : a * B < A * B := Int.mul_lt_mul_of_pos_right h1 (by omega)
  omega
theorem sc_place : Sc ["number"] ["number"] 6 := ⟨rfl, rfl, rfl, by decide +kernel, rfl, by decide +kernel, by decide +kernel⟩
theorem c_place (E : En K mg) {n : Rate} (h : Sm n) : Cal P w K mg base 1 "place_of" [eR n] (.int (n.1 * 1000000000000000 / n.2)) := by
  obtain ⟨f, fd, F, hm⟩ := E.f_place_of
  obtain ⟨h1, h2, h3, h4⟩ := h
  refine cal_of (bg := []) F sc_place hm (fun _ _ _ _ _ _ us hl => match us, hl with | [_], _ => rfl) rfl (by decide) fun f cdv A outer s H Ex G hr => ?_
  exact b1 (sRet (dDiv (cdiv h2 (by omega)) (dMul (by simp only [CMul]; omega) (dIxT rfl (dv 0) di) (dg E.i_FINE)) (dIxT rfl (dv 0) di)))
theorem sc_is_less : Sc ["one", "other"] ["one", "other"] 7 := ⟨rfl, rfl, rfl, by decide +kernel, rfl, by decide +kernel, by decide +kernel⟩
theorem c_is_less (E : En K mg) {a b : Rate} (ha : Sm a) (hb : Sm b) : Cal P w K mg base 1 "is_less" [eR a, eR b] (.bool (isLess a b)) := by
  obtain ⟨f, fd, F, hm⟩ := E.f_is_less
  obtain ⟨h1, h2, h3, h4⟩ := ha
  obtain ⟨g1, g2, g3, g4⟩ := hb
  refine cal_of (bg := []) F sc_is_less hm (fun _ _ _ _ _ _ us hl => match us, hl with | [_, _], _ => rfl) rfl (by decide) fun f cdv A outer s H Ex G hr => ?_
  exact b1 (sRet (dLt (dMul (by simp only [CMul]; omega) (dIxT rfl (dv 0) di) (dIxT rfl (dv 1) di)) (dMul (by simp only [CMul]; omega) (dIxT rfl (dv 1) di) (dIxT rfl (dv 0) di))))
theorem sc_middle : Sc ["one", "other"] ["one", "other"] 8 := ⟨rfl, rfl, rfl, by decide +kernel, rfl, by decide +kernel, by decide +kernel⟩
theorem c_middle (E : En K mg) {a b : Rate} (ha : Sm a) (hb : Sm b) : Cal P w K mg base 2 "middle" [eR a, eR b] (eR (middle a b)) := by
  obtain ⟨f, fd, F, hm⟩ := E.f_middle
  obtain ⟨h1, h2, h3, h4⟩ := ha
  obtain ⟨g1, g2, g3, g4⟩ := hb
  refine cal_of (bg := []) F sc_middle hm (fun _ _ _ _ _ _ us hl => match us, hl with | [_, _], _ => rfl) rfl (by decide) fun f cdv A outer s H Ex G hr => ?_
  have k1 : 0 < 2 * a.2 := by omega
  have k2 : 0 < 2 * a.2 * b.2 := Int.mul_pos k1 g2
  have k3 : 2 * a.2 * b.2 < 2 ^ 61 * 2 ^ 60 := mul_lt' (by omega) (by omega) (by omega) g4
  exact b1 (sRet (dCall (c_lowest E k2 (by omega)) hr (aC (dAdd (dMul (by simp only [CMul]; omega) (dIxT rfl (dv 0) di) (dIxT rfl (dv 1) di)) (dMul (by simp only [CMul]; omega) (dIxT rfl (dv 1) di) (dIxT rfl (dv 0) di)))
    (aC (dMul (by simp only [CMul]; omega) (dMul (by simp only [CMul]; omega) di (dIxT rfl (dv 0) di)) (dIxT rfl (dv 1) di)) aN))))
theorem sc_rounded : Sc ["mode", "step", "top", "below"] ["mode", "step", "top", "below"] 9 := ⟨rfl, rfl, rfl, by decide +kernel, rfl, by decide +kernel, by decide +kernel⟩
theorem c_rounded (E : En K mg) {m : Mode} {s t b : Int} (hs : 0 < s) (hs2 : s ≤ 10) (hb : 0 < b) (hb2 : b < 2 ^ 180) : Cal P w K mg base 1 "rounded" [.str (ms m), .int s, .int t, .int b] (.int (rounded m s t b)) := by
  obtain ⟨f, fd, F, hm⟩ := E.f_rounded
  refine cal_of (bg := []) F sc_rounded hm (fun _ _ _ _ _ _ us hl => match us, hl with | [_, _, _, _], _ => rfl) rfl (by decide) fun f cdv A outer s' H Ex G hr => ?_
  have k1 : 0 < b * s := Int.mul_pos hb hs
  have k2 : b * s < 2 ^ 180 * 11 := mul_lt' (by omega) (by omega) hb2 (by omega)
  have k3 : 0 < 2 * b * s := Int.mul_pos (by omega) hs
  have k4 : 2 * b * s < 2 ^ 181 * 11 := mul_lt' (by omega) (by omega) (by omega) (by omega)
  have c1 : CMul b s := by simp only [CMul]; omega
  have c2 : ∀ x, CMul x s := fun x => by simp only [CMul]; omega
  refine bIf (tEqS (dv 0) (dg E.s_DOWN)) (fun h => brR (b1 (sRet' (dMul (c2 _) (dDiv (cdiv k1 (by omega)) (dv 2) (dMul c1 (dv 3) (dv 1))) (dv 1)) ?_))) fun h1 => br0 ?_
  · cases m <;> first | rfl | (exact absurd h (by decide))
  refine bIf (tEqS (dv 0) (dg E.s_UP)) (fun h => brR (b1 (sRet' (dMul (c2 _) (dDiv (cdiv k1 (by omega)) (dSub (dAdd (dv 2) (dMul c1 (dv 3) (dv 1))) di) (dMul c1 (dv 3) (dv 1))) (dv 1)) ?_))) fun h2 => br0 ?_
  · cases m <;> first | rfl | (exact absurd h (by decide))
  refine bIf (tEqS (dv 0) (dg E.s_NEAR)) (fun h => brR (b1 (sRet' (dMul (c2 _) (dDiv (cdiv k3 (by omega)) (dAdd (dMul (by simp only [CMul]; omega) di (dv 2)) (dMul c1 (dv 3) (dv 1))) (dMul (c2 _) (dMul (by simp only [CMul]; omega) di (dv 3)) (dv 1))) (dv 1)) ?_))) fun h3 => br0 ?_
  · cases m <;> first | rfl | (exact absurd h (by decide))
  refine b1 (sRet' (dSub (dMul (c2 _) (dDiv (cdiv k1 (by omega)) (dSub (dAdd (dAdd (dv 2) (dv 3)) (dMul c1 (dv 3) (dv 1))) di) (dMul c1 (dv 3) (dv 1))) (dv 1)) di) ?_)
  cases m <;> first | rfl | (exact absurd h1 (by decide)) | (exact absurd h2 (by decide)) | (exact absurd h3 (by decide))
theorem upTo_rg (n : Int) : rgD 1 n.toNat = (oneTo n).map .int := by
  unfold rgD oneTo
  rw [List.map_map]
  rfl
theorem mem_upTo {n x : Int} : x ∈ oneTo n ↔ 1 ≤ x ∧ x ≤ n := by
  unfold oneTo
  simp only [List.mem_map, List.mem_range]
  constructor
  · rintro ⟨i, h1, rfl⟩
    omega
  · rintro ⟨h1, h2⟩
    exact ⟨(x - 1).toNat, by omega, by omega⟩
theorem sc_edges : Sc ["mode", "step", "most", "many", "number"] ["mode", "step", "most"] 10 := ⟨rfl, rfl, rfl, by decide +kernel, rfl, by decide +kernel, by decide +kernel⟩
theorem c_edges (E : En K mg) {m : Mode} {s most : Int} (hs : 0 < s) (hs2 : s ≤ 10) (h0 : 0 ≤ most) (h1 : most ≤ 1000) : Cal P w K mg base 2 "edges" [.str (ms m), .int s, .int most] (.list ((edges m s most).map eR)) := by
  obtain ⟨f, fd, F, hm⟩ := E.f_edges
  refine cal_of (bg := []) F sc_edges hm (fun _ _ _ _ _ _ us hl => match us, hl with | [_, _, _], _ => rfl) rfl (by decide) fun f cdv A outer s' H Ex G hr => ?_
  have hd0 : 0 ≤ most / s := Int.ediv_nonneg h0 (by omega)
  have hd1 : most / s ≤ most := Int.ediv_le_self _ h0
  have hz : ((oneTo (most / s + 1)).map PyData.int).length ≤ sizeLine := by
    have e := sizeLine_eq
    simp [oneTo]
    omega
  refine bC (r1 := [.d (.str (ms m)), .d (.int s), .d (.int most), .d (.list ((oneTo (most / s + 1)).map .int)), .u]) (sSet 3 (dTo (dLstRg E.b_list E.b_range di (dAdd (dDiv (cdiv hs (by omega)) (dv 2) (dv 1)) di) ⟨by omega, by omega⟩) ?_) sc_edges.nd) ?_
  · rw [show most / s + 2 - 1 = most / s + 1 by omega, upTo_rg]
  have hmem : ∀ k ∈ oneTo (most / s + 1), 1 ≤ k ∧ k ≤ 1001 := fun k hk => by
    have := mem_upTo.mp hk
    omega
  have cs : ∀ x, CMul x s := fun x => by simp only [CMul]; omega
  refine bIf (tEqS (dv 0) (dg E.s_NEAR)) (fun h => brR (b1 (sRet (r1 := [.d (.str (ms m)), .d (.int s), .d (.int most), .d (.list ((oneTo (most / s + 1)).map .int)), .u]) ?_))) fun h => br0 ?_
  · refine dLc (own := [("number", 4)]) (iL (dv 3)) (noM rfl) (comp_map .int eR (edge m s) _ fun k hk => ?_) hz sc_edges.nd (by rfl)
    have := hmem k hk
    refine cTake (fun _ _ _ _ _ _ => gNm 4 sc_edges.nd) (by decide) (fun _ _ _ _ _ _ => dTo (dCall (c_lowest E (by decide) (by decide)) hr (aC (dMul (cs _) (dSub (dMul (by simp only [CMul]; omega) di (dv 4)) di) (dv 1)) (aC di aN))) ?_)
    cases m <;> first | rfl | (exact absurd h (by decide))
  refine bIf (tIn (u65 hr) (.inr rfl) (sh_ms m) (by decide +kernel) rfl (dv 0) (dTup2 (aC (dg E.s_DOWN) (aC (dg E.s_UP) aN)))) (fun h2 => brR (b1 (sRet (r1 := [.d (.str (ms m)), .d (.int s), .d (.int most), .d (.list ((oneTo (most / s + 1)).map .int)), .u]) ?_))) fun h2 => br0 (b1 (sRet (r1 := [.d (.str (ms m)), .d (.int s), .d (.int most), .d (.list ((oneTo (most / s + 1)).map .int)), .u]) ?_))
  · refine dLc (own := [("number", 4)]) (iL (dv 3)) (noM rfl) (comp_map .int eR (edge m s) _ fun k hk => ?_) hz sc_edges.nd (by rfl)
    refine cTake (fun _ _ _ _ _ _ => gNm 4 sc_edges.nd) (by decide) (fun _ _ _ _ _ _ => dTo (dTup2 (aC (dMul (cs _) (dv 4) (dv 1)) (aC di aN))) ?_)
    cases m <;> first | rfl | (exact absurd h (by decide)) | (exact absurd h2 (by decide))
  · refine dLc (own := [("number", 4)]) (iL (dv 3)) (noM rfl) (comp_map .int eR (edge m s) _ fun k hk => ?_) hz sc_edges.nd (by rfl)
    refine cTake (fun _ _ _ _ _ _ => gNm 4 sc_edges.nd) (by decide) (fun _ _ _ _ _ _ => dTo (dTup2 (aC (dSub (dMul (cs _) (dv 4) (dv 1)) di) (aC di aN))) ?_)
    cases m <;> first | rfl | (exact absurd h (by decide)) | (exact absurd h2 (by decide))
end Kx
end Sec_P1
section Sec_P2
set_option maxRecDepth 100000
/-! gives, tags, edges of rules. -/
namespace Kx
open PySem PySem.Spec PyProof.Rows L2 DL AM
variable {P : Program} {w : World} {K : PySem.W.Frag} {mg : Str → Option Value} {base : Heap}
structure RuOk (u : Ru) : Prop where
  s0 : 0 < u.s
  s1 : u.s ≤ 10
  c0 : 0 ≤ u.c
  c1 : u.c ≤ 30
  k0 : 0 ≤ u.k
  k1 : u.k ≤ 50
theorem sm_fall {b : Bool} {r : Rate} (h : Sm r) : Sm (fall b r) := by
  cases b
  · exact ⟨h.q, h.p, h.Q, h.P⟩
  · exact h
theorem sc_gives : Sc ["rule", "way", "amount", "rate", "mode", "step", "charge", "cut", "top", "below"] ["rule", "way", "amount", "rate"] 50 := ⟨rfl, rfl, rfl, by decide +kernel, rfl, by decide +kernel, by decide +kernel⟩
theorem c_gives (E : En K mg) {u : Ru} {bk : Bool} {n : Int} {r : Rate} (hu : RuOk u) (hn : 0 < n) (hn2 : n ≤ 12) (h : Sm r) : Cal P w K mg base 2 "gives" [eRu u, .str (wayS bk), .int n, eR r] (.int (gives u bk n r)) := by
  obtain ⟨f, fd, F, hm⟩ := E.f_gives
  obtain ⟨s0, s1, c0, c1, k0, k1⟩ := hu
  have hf := sm_fall (b := bk) h
  obtain ⟨h1, h2, h3, h4⟩ := hf
  refine cal_of (bg := []) F sc_gives hm (fun _ _ _ _ _ _ us hl => match us, hl with | [_, _, _, _], _ => rfl) rfl (by decide) fun f cdv A outer s' H Ex G hr => ?_
  refine bC (sAsg (dv 0) (gTu (gC (gNm 4 sc_gives.nd) (gC (gNm 5 sc_gives.nd) (gC (gNm 6 sc_gives.nd) (gC (gNm 7 sc_gives.nd) gN)))))) ?_
  refine bC (sAsg (x := eR (fall bk r)) (dIf' (tEqS (dv 1) (dg E.s_BACK)) (fun h => dTo (dv 3) ?_) (fun h => dTo (dTup2 (aC (dIxT rfl (dv 3) di) (aC (dIxT rfl (dv 3) di) aN))) ?_)) (gTu (gC (gNm 8 sc_gives.nd) (gC (gNm 9 sc_gives.nd) gN)))) ?_
  · cases bk <;> first | rfl | (exact absurd h (by decide))
  · cases bk <;> first | rfl | (exact absurd h (by decide))
  have c : ∀ x, CMul x 100 := fun x => by simp only [CMul]; omega
  have c2 : ∀ x, CMul x (100 - u.k) := fun x => by simp only [CMul]; omega
  have c3 : ∀ x, CMul n x := fun x => by simp only [CMul]; omega
  refine b1 (sRet' (dMax E.b_max (aC di (aC (dSub (dCall (c_rounded E s0 s1 (show 0 < (fall bk r).2 * 100 by omega) (by omega)) hr (aC (dv 4) (aC (dv 5) (aC (dMul (c2 _) (dMul (c3 _) (dv 2) (dv 8)) (dSub di (dv 7))) (aC (dMul (c _) (dv 9) di) aN))))) (dv 6)) aN))) ?_)
  · unfold gives
    exact congrArg PyData.int (by split <;> omega)
structure RoOk (o : Ro) : Prop where
  s0 : 0 < o.s
  s1 : o.s ≤ 10
structure ShOk (s : Shop) : Prop where
  a : RoOk s.1
  b : RoOk s.2.1
theorem sc_tag : Sc ["shop", "price", "rate"] ["shop", "price", "rate"] 52 := ⟨rfl, rfl, rfl, by decide +kernel, rfl, by decide +kernel, by decide +kernel⟩
theorem c_tag_of (E : En K mg) {s : Shop} {n : Int} {r : Rate} (hs : ShOk s) (h : Sm r) : Cal P w K mg base 2 "tag_of" [eShop s, .int n, eR r] (.int (tag s n r)) := by
  obtain ⟨f, fd, F, hm⟩ := E.f_tag_of
  obtain ⟨⟨s0, s1⟩, _⟩ := hs
  obtain ⟨h1, h2, h3, h4⟩ := h
  refine cal_of (bg := []) F sc_tag hm (fun _ _ _ _ _ _ us hl => match us, hl with | [_, _, _], _ => rfl) rfl (by decide) fun f cdv A outer s' H Ex G hr => ?_
  exact b1 (sRet (dCall (c_rounded E s0 s1 h1 (by omega)) hr (aC (dI (dI (dv 0) di) di) (aC (dI (dI (dv 0) di) di) (aC (dMul (by simp only [CMul]; omega) (dv 1) (dIxT rfl (dv 2) di)) (aC (dIxT rfl (dv 2) di) aN))))))
theorem sc_change : Sc ["shop", "much", "rate"] ["shop", "much", "rate"] 53 := ⟨rfl, rfl, rfl, by decide +kernel, rfl, by decide +kernel, by decide +kernel⟩
theorem c_change_of (E : En K mg) {s : Shop} {n : Int} {r : Rate} (hs : ShOk s) (h : Sm r) : Cal P w K mg base 2 "change_of" [eShop s, .int n, eR r] (.int (change s n r)) := by
  obtain ⟨f, fd, F, hm⟩ := E.f_change_of
  obtain ⟨_, ⟨s0, s1⟩⟩ := hs
  obtain ⟨h1, h2, h3, h4⟩ := h
  refine cal_of (bg := []) F sc_change hm (fun _ _ _ _ _ _ us hl => match us, hl with | [_, _, _], _ => rfl) rfl (by decide) fun f cdv A outer s' H Ex G hr => ?_
  exact b1 (sRet (dCall (c_rounded E s0 s1 h2 (by omega)) hr (aC (dI (dI (dv 0) di) di) (aC (dI (dI (dv 0) di) di) (aC (dMul (by simp only [CMul]; omega) (dv 1) (dIxT rfl (dv 2) di)) (aC (dIxT rfl (dv 2) di) aN))))))
theorem sm_low : Sm LOW := ⟨by decide, by decide, by decide, by decide⟩
theorem sm_high : Sm HIGH := ⟨by decide, by decide, by decide, by decide⟩
theorem sc_within : Sc ["some", "number"] ["some"] 64 := ⟨rfl, rfl, rfl, by decide +kernel, rfl, by decide +kernel, by decide +kernel⟩
theorem c_within (E : En K mg) {l : List Rate} (hl : l.length ≤ 100000) (h : ∀ r ∈ l, Sm r) : Cal P w K mg base 2 "within" [.list (l.map eR)] (.list ((within l).map eR)) := by
  obtain ⟨f, fd, F, hm⟩ := E.f_within
  refine cal_of (bg := []) F sc_within hm (fun _ _ _ _ _ _ us hl => match us, hl with | [_], _ => rfl) rfl (by decide) fun f cdv A outer s' H Ex G hr => ?_
  refine b1 (sRet (r1 := [.d (.list (l.map eR)), .u]) ?_)
  exact dLc (own := [("number", 1)]) (iL (dv 0)) (noM rfl) (comp_filter eR _ _ fun n hn => cIf (fun _ _ _ _ _ _ => gNm 1 sc_within.nd)
    (fun _ _ _ _ _ _ => tW (wAnd (tNot' (tV (dCall (c_is_less E (h n hn) sm_low) hr (aC (dv 1) (aC (dg E.t_LOW) aN))))) fun _ => wAnd1 (tNot' (tV (dCall (c_is_less E sm_high (h n hn)) hr (aC (dg E.t_HIGH) (aC (dv 1) aN)))))))
    (fun _ _ _ _ _ _ _ => dv 1)) (by rw [List.length_map, sizeLine_eq]; omega) sc_within.nd (by rfl)
end Kx
end Sec_P2
section Sec_P3
set_option maxRecDepth 100000
/-! Edges of rules, deeds, scripts. -/
namespace Kx
open PySem PySem.Spec PyProof.Rows L2 DL AM
variable {P : Program} {w : World} {K : PySem.W.Frag} {mg : Str → Option Value} {base : Heap}
/-! ### bounds -/
structure Sb (B : Int) (r : Rate) : Prop where
  p : 0 < r.1
  q : 0 < r.2
  P : r.1 ≤ B
  Q : r.2 ≤ B
theorem Sb.sm {B : Int} {r : Rate} (h : Sb B r) (hB : B < 2 ^ 60) : Sm r := ⟨h.p, h.q, by have := h.P; omega, by have := h.Q; omega⟩
theorem sb_lowest {t b B : Int} (ht : 0 < t) (hb : 0 < b) (h1 : t ≤ B) (h2 : b ≤ B) : Sb B (lowest t b) := by
  have hg := gcd_pos (t := t) hb
  have d1 : gcdI t b ∣ t := Int.gcd_dvd_left (a := t) (b := b)
  have d2 : gcdI t b ∣ b := Int.gcd_dvd_right (a := t) (b := b)
  have e1 := Int.ediv_mul_cancel d1
  have e2 := Int.ediv_mul_cancel d2
  have p1 : 0 < t / gcdI t b := Int.pos_of_mul_pos_left (by rw [e1]; exact ht) hg
  have p2 : 0 < b / gcdI t b := Int.pos_of_mul_pos_left (by rw [e2]; exact hb) hg
  have q1 : t / gcdI t b ≤ t := Int.ediv_le_self _ (Int.le_of_lt ht)
  have q2 : b / gcdI t b ≤ b := Int.ediv_le_self _ (Int.le_of_lt hb)
  exact ⟨p1, p2, by show t / gcdI t b ≤ B; omega, by show b / gcdI t b ≤ B; omega⟩
theorem edge_bd {m : Mode} {s k : Int} (hs : 0 < s) (hs2 : s ≤ 10) (hk : 1 ≤ k) (hk2 : k ≤ 1001) : 0 < (edge m s k).2 ∧ (edge m s k).2 ≤ 2 ∧ (edge m s k).1 ≤ 20020 := by
  have h1 : k * s ≤ 1001 * 10 := Int.mul_le_mul hk2 hs2 (by omega) (by omega)
  have h2 : 0 < k * s := Int.mul_pos (by omega) hs
  have h3 : (2 * k - 1) * s = 2 * (k * s) - s := by rw [Int.sub_mul, Int.mul_assoc, Int.one_mul]
  have h4 : 1 * s ≤ k * s := Int.mul_le_mul_of_nonneg_right hk (by omega)
  cases m with
  | near =>
    have b := sb_lowest (t := (2 * k - 1) * s) (b := 2) (B := 20020) (by omega) (by decide) (by omega) (by decide)
    have g := gcd_pos (t := (2 * k - 1) * s) (b := 2) (by decide)
    have q : (edge .near s k).2 ≤ 2 := Int.ediv_le_self (a := 2) _ (by decide)
    exact ⟨b.q, q, b.P⟩
  | nine => exact ⟨by show (0 : Int) < 1; decide, by show (1 : Int) ≤ 2; decide, by show k * s - 1 ≤ _; omega⟩
  | down => exact ⟨by show (0 : Int) < 1; decide, by show (1 : Int) ≤ 2; decide, by show k * s ≤ _; omega⟩
  | up => exact ⟨by show (0 : Int) < 1; decide, by show (1 : Int) ≤ 2; decide, by show k * s ≤ _; omega⟩
theorem mem_edges {m : Mode} {s most : Int} {e : Rate} (hs : 0 < s) (hs2 : s ≤ 10) (h0 : 0 ≤ most) (h1 : most ≤ 1000) (he : e ∈ edges m s most) : 0 < e.2 ∧ e.2 ≤ 2 ∧ e.1 ≤ 20020 := by
  obtain ⟨k, hk, rfl⟩ := List.mem_map.mp he
  have := mem_upTo.mp hk
  have := Int.ediv_le_self s h0
  exact edge_bd hs hs2 (by omega) (by omega)
theorem turned_sb {bk : Bool} {top : Int} {e : Rate} (ht : 0 < top) (ht2 : top ≤ 1200) (h0 : 0 < e.1) (h : 0 < e.2 ∧ e.2 ≤ 2 ∧ e.1 ≤ 20020) : Sb 2002000 (turned bk top e) := by
  obtain ⟨h1, h2, h3⟩ := h
  have k1 : 0 < e.2 * top := Int.mul_pos h1 ht
  have k2 : e.2 * top ≤ 2 * 1200 := Int.mul_le_mul h2 ht2 (by omega) (by omega)
  have k3 : top * e.2 = e.2 * top := Int.mul_comm _ _
  unfold turned
  split
  · exact sb_lowest (by omega) k1 (by omega) (by omega)
  · exact sb_lowest (by omega) (by omega) (by omega) (by omega)
theorem edges_len {m : Mode} {s most : Int} (hs : 0 < s) (h0 : 0 ≤ most) : (edges m s most).length ≤ most.toNat + 1 := by
  have := Int.ediv_le_self s h0
  have := Int.ediv_nonneg h0 (Int.le_of_lt hs)
  simp [edges, oneTo]
  omega
theorem ruleEdges_sb {u : Ru} {bk : Bool} {n : Int} (hu : RuOk u) (hn : 0 < n) (hn2 : n ≤ 12) {r : Rate} (hr : r ∈ ruleEdges u bk n) : Sb 2002000 r := by
  have hr := (List.mem_filter.mp hr).1
  obtain ⟨e, he, rfl⟩ := List.mem_map.mp hr
  obtain ⟨he, h0⟩ := List.mem_filter.mp he
  obtain ⟨s0, s1, c0, c1, k0, k1⟩ := hu
  have h1 : 0 < n * (100 - u.k) := Int.mul_pos hn (by omega)
  have h2 : n * (100 - u.k) ≤ 12 * 100 := Int.mul_le_mul hn2 (by omega) (by omega) (by omega)
  exact turned_sb h1 h2 (of_decide_eq_true h0) (mem_edges s0 s1 (by omega) (by omega) he)
theorem ruleEdges_len {u : Ru} {bk : Bool} {n : Int} (hu : RuOk u) (hn : 0 < n) (hn2 : n ≤ 12) : (ruleEdges u bk n).length ≤ 59 := by
  refine Nat.le_trans (List.length_filter_le _ _) ?_
  rw [List.length_map]
  refine Nat.le_trans (List.length_filter_le _ _) (Nat.le_trans (edges_len hu.s0 (by have := hu.s0; omega)) ?_)
  have := hu.s1
  omega
/-! ### rule_edges -/
theorem flat_if {α β : Type} (p : α → Bool) (f : α → β) : ∀ l : List α, (l.flatMap fun x => if p x = true then [f x] else []) = (l.filter p).map f
  | [] => rfl
  | x :: l => by
    rw [List.flatMap_cons, List.filter_cons, flat_if p f l]
    split <;> rfl
theorem sc_rule_edges : Sc ["rule", "way", "amount", "mode", "step", "charge", "cut", "top", "found", "number", "part", "edge"] ["rule", "way", "amount"] 65 := ⟨rfl, rfl, rfl, by decide +kernel, rfl, by decide +kernel, by decide +kernel⟩
theorem c_rule_edges (E : En K mg) {u : Ru} {bk : Bool} {n : Int} (hu : RuOk u) (hn : 0 < n) (hn2 : n ≤ 12) : Cal P w K mg base 3 "rule_edges" [eRu u, .str (wayS bk), .int n] (.list ((ruleEdges u bk n).map eR)) := by
  obtain ⟨f, fd, F, hm⟩ := E.f_rule_edges
  have hu' := hu
  obtain ⟨s0, s1, c0, c1, k0, k1⟩ := hu
  refine cal_of (bg := []) F sc_rule_edges hm (fun _ _ _ _ _ _ us hl => match us, hl with | [_, _, _], _ => rfl) rfl (by decide) fun f cdv A outer s' H Ex G hr => ?_
  have h1 : 0 < n * (100 - u.k) := Int.mul_pos hn (by omega)
  have h2 : n * (100 - u.k) ≤ 12 * 100 := Int.mul_le_mul hn2 (by omega) (by omega) (by omega)
  have nd := sc_rule_edges.nd
  generalize ht : n * (100 - u.k) = tp at h1 h2
  have bd : ∀ e ∈ edges u.m u.s (4 * n + u.s), 0 < e.2 ∧ e.2 ≤ 2 ∧ e.1 ≤ 20020 := fun e he => mem_edges s0 s1 (by omega) (by omega) he
  have len := edges_len (m := u.m) s0 (show 0 ≤ 4 * n + u.s by omega)
  have c1 : ∀ x, CMul x (100 - u.k) := fun x => by simp only [CMul]; omega
  have c2 : ∀ x, CMul x tp := fun x => by simp only [CMul]; omega
  have c3 : ∀ x, CMul tp x := fun x => by simp only [CMul]; omega
  have c4 : ∀ x, CMul 100 x := fun x => by simp only [CMul]; omega
  have c5 : ∀ x, CMul 4 x := fun x => by simp only [CMul]; omega
  have c6 : ∀ x, CMul n x := fun x => by simp only [CMul]; omega
  refine bC (sAsg (dv 0) (gTu (gC (gNm 3 nd) (gC (gNm 4 nd) (gC (gNm 5 nd) (gC (gNm 6 nd) gN)))))) ?_
  refine bC (sPar 7 8 (aC (dTo (dMul (c6 _) (dv 2) (dSub di (dv 6))) (congrArg PyData.int ht)) (aC dLst0 aN)) nd) ?_
  have sz := sizeLine_eq
  have hfl := flat_if (fun e : Rate => decide (0 < e.1)) (turned bk tp) (edges u.m u.s (4 * n + u.s))
  have hln := Nat.le_trans (List.length_filter_le (fun e : Rate => decide (0 < e.1)) (edges u.m u.s (4 * n + u.s))) len
  refine bC (r1 := [.d (eRu u), .d (.str (wayS bk)), .d (.int n), .d (.str (ms u.m)), .d (.int u.s), .d (.int u.c), .d (.int u.k), .d (.int tp), .d (.list ((((edges u.m u.s (4 * n + u.s)).filter fun e : Rate => decide (0 < e.1)).map (turned bk tp)).map eR)), .u, .u, .u])
    (sFor (iL (dCall (c_edges E s0 s1 (show 0 ≤ 4 * n + u.s by omega) (by omega)) hr (aC (dv 3) (aC (dv 4) (aC (dAdd (dMul (c5 _) di (dv 2)) (dv 4)) aN))))) ?_) ?_
  · rw [← hfl]
    refine for_acc eR (fun acc => [.d (eRu u), .d (.str (wayS bk)), .d (.int n), .d (.str (ms u.m)), .d (.int u.s), .d (.int u.c), .d (.int u.k), .d (.int tp), .d (.list (acc.map eR)), .u, .u, .u]) _ 100000 _ [] (by rw [hfl, List.length_map]; simp; omega) fun e he acc hacc => ?_
    obtain ⟨b1', b2, b3⟩ := bd e he
    refine fS (gTu (gC (gNm 9 nd) (gC (gNm 10 nd) gN))) ?_
    refine bIf (tGt (dv 9) di) (fun h => ?_) fun h => br0 ?_
    · have hp : 0 < e.1 := of_decide_eq_true h
      have k1 : 0 < e.2 * tp := Int.mul_pos b1' h1
      have k2 : e.2 * tp ≤ 2 * 1200 := Int.mul_le_mul b2 (by omega) (by omega) (by omega)
      have k3 : tp * e.2 = e.2 * tp := Int.mul_comm _ _
      have l1 := c_lowest (P := P) (w := w) (base := base) E (t := 100 * e.1) k1 (by omega)
      have l2 := c_lowest (P := P) (w := w) (base := base) E (t := tp * e.2) (show 0 < 100 * e.1 by omega) (by omega)
      refine brN (bC (sSet 11 (x := eR (turned bk tp e)) (dIf' (tEqS (dv 1) (dg E.s_BACK)) (fun hb => dTo (dCall l1 (hr.mono (by decide)) (aC (dMul (c4 _) di (dv 9)) (aC (dMul (c2 _) (dv 10) (dv 7)) aN))) ?_)
        (fun hb => dTo (dCall l2 (hr.mono (by decide)) (aC (dMul (c3 _) (dv 7) (dv 10)) (aC (dMul (c4 _) di (dv 9)) aN))) ?_)) nd) (b1 (sSet 8 (dTo (dCatL ?_ (dv 8) (dLst1 (dv 11))) ?_) nd))) (bW [9, 10, 11])
      · cases bk <;> first | rfl | (exact absurd hb (by decide))
      · cases bk <;> first | rfl | (exact absurd hb (by decide))
      · simp only [h, if_true] at hacc
        simp at hacc ⊢
        omega
      · rw [if_pos h]
        exact map_snoc acc _
    · rw [if_neg (by rw [h]; decide), List.append_nil]
      exact bW [9, 10, 11]
  · refine b1 (sRet' (dCall (c_within E ?_ ?_) hr (aC (dv 8) aN)) ?_)
    · rw [List.length_map]; omega
    · intro r hr
      obtain ⟨e, he, rfl⟩ := List.mem_map.mp hr
      obtain ⟨he, h0⟩ := List.mem_filter.mp he
      exact (turned_sb h1 h2 (of_decide_eq_true h0) (bd e he)).sm (by decide)
    · unfold ruleEdges
      rw [ht]
theorem sc_tag_edges : Sc ["shop", "price"] ["shop", "price"] 66 := ⟨rfl, rfl, rfl, by decide +kernel, rfl, by decide +kernel, by decide +kernel⟩
theorem ru_ok {o : Ro} (h : RoOk o) : RuOk o.ru := ⟨h.s0, h.s1, by show (0 : Int) ≤ 0; decide, by show (0 : Int) ≤ 30; decide, by show (0 : Int) ≤ 0; decide, by show (0 : Int) ≤ 50; decide⟩
theorem c_tag_edges (E : En K mg) {s : Shop} {n : Int} (hs : ShOk s) (hn : 0 < n) (hn2 : n ≤ 12) : Cal P w K mg base 4 "tag_edges" [eShop s, .int n] (.list ((ruleEdges s.1.ru false n).map eR)) := by
  obtain ⟨f, fd, F, hm⟩ := E.f_tag_edges
  refine cal_of (bg := []) F sc_tag_edges hm (fun _ _ _ _ _ _ us hl => match us, hl with | [_, _], _ => rfl) rfl (by decide) fun f cdv A outer s' H Ex G hr => ?_
  exact b1 (sRet (dCall (c_rule_edges E (bk := false) (ru_ok hs.a) hn hn2) hr (aC (dCatT (xs := [.str (ms s.1.m), .int s.1.s]) (ys := [.int 0, .int 0]) (by show 4 ≤ sizeLine; decide) (dI (dv 0) di) (dTup2 (aC di (aC di aN)))) (aC (dg E.s_INTO) (aC (dv 1) aN)))))
theorem sc_change_edges : Sc ["shop", "much"] ["shop", "much"] 67 := ⟨rfl, rfl, rfl, by decide +kernel, rfl, by decide +kernel, by decide +kernel⟩
theorem c_change_edges (E : En K mg) {s : Shop} {n : Int} (hs : ShOk s) (hn : 0 < n) (hn2 : n ≤ 12) : Cal P w K mg base 4 "change_edges" [eShop s, .int n] (.list ((ruleEdges s.2.1.ru true n).map eR)) := by
  obtain ⟨f, fd, F, hm⟩ := E.f_change_edges
  refine cal_of (bg := []) F sc_change_edges hm (fun _ _ _ _ _ _ us hl => match us, hl with | [_, _], _ => rfl) rfl (by decide) fun f cdv A outer s' H Ex G hr => ?_
  exact b1 (sRet (dCall (c_rule_edges E (bk := true) (ru_ok hs.b) hn hn2) hr (aC (dCatT (xs := [.str (ms s.2.1.m), .int s.2.1.s]) (ys := [.int 0, .int 0]) (by show 4 ≤ sizeLine; decide) (dI (dv 0) di) (dTup2 (aC di (aC di aN)))) (aC (dg E.s_BACK) (aC (dv 1) aN)))))
/-! ### deeds -/
structure Am (n : Int) : Prop where
  lo : 1 ≤ n
  hi : n ≤ 12
/-- the deed can stand in the world -/
def DOk (W : Wd) : Deed → Prop
  | .ex bk i n => (∃ o : Office, W.offices[i]? = some o ∧ (if bk = true then o.2 else o.1) = some (W.rule i bk)) ∧ RuOk (W.rule i bk) ∧ Am n
  | .over i p m => W.shops[i]? = some (W.shop i) ∧ ShOk (W.shop i) ∧ Am p ∧ Am m
  | .buy i p _ => W.shops[i]? = some (W.shop i) ∧ ShOk (W.shop i) ∧ Am p
  | .ret i p _ => W.shops[i]? = some (W.shop i) ∧ ShOk (W.shop i) ∧ Am p ∧ (W.shop i).2.2 = true
section
variable {X : Cx} {G : Fr0} {r r1 : Rho}
/-- the rule of an exchange -/
theorem office_at {W : Wd} {bk : Bool} {i : Nat} {n : Int} (h : DOk W (.ex bk i n)) : ∃ o : Office, (W.offices.map eOff)[i]? = some (eOff o) ∧ (if bk = true then eORu o.2 else eORu o.1) = eRu (W.rule i bk) := by
  obtain ⟨⟨o, h1, h2⟩, _⟩ := h
  refine ⟨o, by rw [List.getElem?_map, h1]; rfl, ?_⟩
  cases bk
  · have h2' : o.1 = some (W.rule i false) := h2
    show eORu o.1 = _
    rw [h2']
    rfl
  · have h2' : o.2 = some (W.rule i true) := h2
    show eORu o.2 = _
    rw [h2']
    rfl
theorem shop_at {W : Wd} {i : Nat} (h : W.shops[i]? = some (W.shop i)) : (W.shops.map eShop)[i]? = some (eShop (W.shop i)) := by
  rw [List.getElem?_map, h]
  rfl
end
theorem way_in {bk : Bool} : ([PyData.str "into", .str "back"].any fun z => PyData.eqv z (.str (wayS bk))) = true := by cases bk <;> decide +kernel
theorem sh_way (bk : Bool) : SeqAt.shaped (.str (wayS bk)) = true := by cases bk <;> decide +kernel
theorem sc_deed_edges : Sc ["world", "deed", "shop", "found", "much"] ["world", "deed"] 68 := ⟨rfl, rfl, rfl, by decide +kernel, rfl, by decide +kernel, by decide +kernel⟩
theorem c_deed_edges (E : En K mg) {W : Wd} {d : Deed} (hd : DOk W d) : Cal P w K mg base 5 "deed_edges" [eW W, eD d] (.list ((deedEdges W d).map eR)) := by
  obtain ⟨f, fd, F, hm⟩ := E.f_deed_edges
  have nd := sc_deed_edges.nd
  refine cal_of (bg := []) F sc_deed_edges hm (fun _ _ _ _ _ _ us hl => match us, hl with | [_, _], _ => rfl) rfl (by decide) fun f cdv A outer s' H Ex G hr => ?_
  cases d with
  | ex bk i n =>
    obtain ⟨o, h1, h2⟩ := office_at hd
    obtain ⟨_, h3, h4, h5⟩ := hd
    cases bk with
    | false => exact bIf (tIn (u65 hr) (.inr rfl) (sh_way false) (by decide +kernel) way_in (dI (dv 1) di) (dTup2 (aC (dg E.s_INTO) (aC (dg E.s_BACK) aN)))) (fun h => brR (b1 (sRet (dCall (c_rule_edges E (bk := false) h3 (by omega) h5) (hr.mono (by decide))
        (aC (dIxT (xs := [eORu o.1, eORu o.2]) (x := eRu (W.rule i false)) (by rw [← h2]; rfl) (dIxT (xs := W.offices.map eOff) (atI_nat h1) (dI (dv 0) di) (dI (dv 1) di)) (dIf' (x := .int 0) (tEqS (dI (dv 1) di) (dg E.s_INTO)) (fun h => di) (fun h => absurd h (by decide)))) (aC (dI (dv 1) di) (aC (dI (dv 1) di) aN))))))) fun h => absurd h (by decide)
    | true => exact bIf (tIn (u65 hr) (.inr rfl) (sh_way true) (by decide +kernel) way_in (dI (dv 1) di) (dTup2 (aC (dg E.s_INTO) (aC (dg E.s_BACK) aN)))) (fun h => brR (b1 (sRet (dCall (c_rule_edges E (bk := true) h3 (by omega) h5) (hr.mono (by decide))
        (aC (dIxT (xs := [eORu o.1, eORu o.2]) (x := eRu (W.rule i true)) (by rw [← h2]; rfl) (dIxT (xs := W.offices.map eOff) (atI_nat h1) (dI (dv 0) di) (dI (dv 1) di)) (dIf' (x := .int 1) (tEqS (dI (dv 1) di) (dg E.s_INTO)) (fun h => absurd h (by decide)) (fun h => di))) (aC (dI (dv 1) di) (aC (dI (dv 1) di) aN))))))) fun h => absurd h (by decide)
  | over i p m =>
    obtain ⟨h1, h2, h3, h4⟩ := hd
    have hs := atI_nat (shop_at h1)
    have sz := sizeLine_eq
    have lt := ruleEdges_len (bk := false) (ru_ok h2.a) (show 0 < p by have := h3.lo; omega) h3.hi
    have lc : ∀ es : List Int, (∀ x ∈ es, 1 ≤ x ∧ x ≤ 12) → (es.flatMap fun x => ruleEdges (W.shop i).2.1.ru true x).length ≤ 59 * es.length := by
      intro es
      induction es with
      | nil => exact fun _ => Nat.le_refl _
      | cons x es ih =>
        intro hx
        have hx0 := hx x List.mem_cons_self
        have := ruleEdges_len (bk := true) (ru_ok h2.b) (show 0 < x by omega) hx0.2
        have := ih fun y hy => hx y (List.mem_cons_of_mem _ hy)
        rw [List.flatMap_cons, List.length_append, List.length_cons]
        omega
    have hm12 : ∀ x ∈ oneTo m, 1 ≤ x ∧ x ≤ 12 := fun x hx => by
      have := mem_upTo.mp hx
      have := h4.hi
      omega
    have lc1 := lc (oneTo m) hm12
    have lo : (oneTo m).length ≤ 12 := by
      have := h4.hi
      simp [oneTo]
      omega
    refine bIf (tIn (x := .str "over") (u65 hr) (.inr rfl) (by decide +kernel) (by decide +kernel) rfl (dI (dv 1) di) (dTup2 (aC (dg E.s_INTO) (aC (dg E.s_BACK) aN)))) (fun h => absurd h (by decide)) fun h => br0 ?_
    refine bC (sSet 2 (dIxT (xs := W.shops.map eShop) hs (dI (dv 0) di) (dI (dv 1) di)) nd) ?_
    refine bC (sSet 3 (dCall (c_tag_edges E h2 (show 0 < p by have := h3.lo; omega) h3.hi) (hr.mono (by decide)) (aC (dv 2) (aC (dI (dv 1) di) aN))) nd) ?_
    refine bIf (tEqS (dI (dv 1) di) (dg E.s_OVER)) (fun h => brN (r1 := [.d (eW W), .d (eD (.over i p m)), .d (eShop (W.shop i)), .d (.list ((ruleEdges (W.shop i).1.ru false p ++ (oneTo m).flatMap fun x => ruleEdges (W.shop i).2.1.ru true x).map eR)), .u]) (b1 (sFor (iTo (iR2 E.b_range (aC di (aC (dAdd (dI (dv 1) di) di) aN)) (by have := h4.lo; have := h4.hi; omega)) (ys := (oneTo m).map .int) ?_) ?_)) (b1 (sRet (dv 3)))) fun h => absurd h (by decide)
    · rw [show m + 1 - 1 = m by omega]
      exact upTo_rg m
    · refine for_acc PyData.int (fun acc => [.d (eW W), .d (eD (.over i p m)), .d (eShop (W.shop i)), .d (.list (acc.map eR)), .u]) _ 1000 _ (ruleEdges (W.shop i).1.ru false p) (by omega) fun x hx acc hacc => ?_
      have hx0 := hm12 x hx
      refine fS (gNm 4 nd) (bC (sSet 3 (dTo (dCatL ?_ (dv 3) (dCall (c_change_edges E h2 (show 0 < x by omega) hx0.2) (hr.mono (by decide)) (aC (dv 2) (aC (dv 4) aN)))) (map_app acc _)) nd) (bW [4]))
      rw [List.length_map, List.length_map]
      omega
  | buy i p home =>
    obtain ⟨h1, h2, h3⟩ := hd
    have hs := atI_nat (shop_at h1)
    refine bIf (tIn (x := .str "buy") (u65 hr) (.inr rfl) (by decide +kernel) (by decide +kernel) rfl (dI (dv 1) di) (dTup2 (aC (dg E.s_INTO) (aC (dg E.s_BACK) aN)))) (fun h => absurd h (by decide)) fun h => br0 ?_
    refine bC (sSet 2 (dIxT (xs := W.shops.map eShop) hs (dI (dv 0) di) (dI (dv 1) di)) nd) ?_
    refine bC (sSet 3 (dCall (c_tag_edges E h2 (show 0 < p by have := h3.lo; omega) h3.hi) (hr.mono (by decide)) (aC (dv 2) (aC (dI (dv 1) di) aN))) nd) ?_
    exact bIf (tEqS (dI (dv 1) di) (dg E.s_OVER)) (fun h => absurd h (by decide)) fun h => br0 (b1 (sRet (dv 3)))
  | ret i p home =>
    obtain ⟨h1, h2, h3, _⟩ := hd
    have hs := atI_nat (shop_at h1)
    refine bIf (tIn (x := .str "return") (u65 hr) (.inr rfl) (by decide +kernel) (by decide +kernel) rfl (dI (dv 1) di) (dTup2 (aC (dg E.s_INTO) (aC (dg E.s_BACK) aN)))) (fun h => absurd h (by decide)) fun h => br0 ?_
    refine bC (sSet 2 (dIxT (xs := W.shops.map eShop) hs (dI (dv 0) di) (dI (dv 1) di)) nd) ?_
    refine bC (sSet 3 (dCall (c_tag_edges E h2 (show 0 < p by have := h3.lo; omega) h3.hi) (hr.mono (by decide)) (aC (dv 2) (aC (dI (dv 1) di) aN))) nd) ?_
    exact bIf (tEqS (dI (dv 1) di) (dg E.s_OVER)) (fun h => absurd h (by decide)) fun h => br0 (b1 (sRet (dv 3)))
theorem deedEdges_len {W : Wd} {d : Deed} (hd : DOk W d) : (deedEdges W d).length ≤ 800 := by
  cases d with
  | ex bk i n => 
    obtain ⟨_, h3, h4, h5⟩ := hd
    have := ruleEdges_len (bk := bk) h3 (show 0 < n by omega) h5
    show (ruleEdges _ _ _).length ≤ _
    omega
  | over i p m =>
    obtain ⟨h1, h2, h3, h4⟩ := hd
    have lt := ruleEdges_len (bk := false) (ru_ok h2.a) (show 0 < p by have := h3.lo; omega) h3.hi
    have lc : ∀ es : List Int, (∀ x ∈ es, 1 ≤ x ∧ x ≤ 12) → (es.flatMap fun x => ruleEdges (W.shop i).2.1.ru true x).length ≤ 59 * es.length := by
      intro es
      induction es with
      | nil => exact fun _ => Nat.le_refl _
      | cons x es ih =>
        intro hx
        have hx0 := hx x List.mem_cons_self
        have := ruleEdges_len (bk := true) (ru_ok h2.b) (show 0 < x by omega) hx0.2
        have := ih fun y hy => hx y (List.mem_cons_of_mem _ hy)
        rw [List.flatMap_cons, List.length_append, List.length_cons]
        omega
    have lc1 := lc (oneTo m) fun x hx => by
      have := mem_upTo.mp hx
      have := h4.hi
      omega
    have lo : (oneTo m).length ≤ 12 := by
      have := h4.hi
      simp [oneTo]
      omega
    show (ruleEdges _ _ _ ++ _).length ≤ _
    rw [List.length_append]
    omega
  | buy i p home =>
    obtain ⟨h1, h2, h3⟩ := hd
    have := ruleEdges_len (bk := false) (ru_ok h2.a) (show 0 < p by have := h3.lo; omega) h3.hi
    show (ruleEdges _ _ _).length ≤ _
    omega
  | ret i p home =>
    obtain ⟨h1, h2, h3, _⟩ := hd
    have := ruleEdges_len (bk := false) (ru_ok h2.a) (show 0 < p by have := h3.lo; omega) h3.hi
    show (ruleEdges _ _ _).length ≤ _
    omega
theorem scriptEdges_len {W : Wd} : ∀ {ds : List Deed}, (∀ d ∈ ds, DOk W d) → (scriptEdges W ds).length ≤ 800 * ds.length
  | [], _ => Nat.le_refl _
  | d :: ds, h => by
    have h1 := deedEdges_len (h d List.mem_cons_self)
    have h2 := scriptEdges_len (ds := ds) fun x hx => h x (List.mem_cons_of_mem _ hx)
    unfold scriptEdges at h2 ⊢
    rw [List.flatMap_cons, List.length_append, List.length_cons]
    omega
theorem deedEdges_sb {W : Wd} {d : Deed} (hd : DOk W d) {r : Rate} (hr : r ∈ deedEdges W d) : Sb 2002000 r := by
  cases d with
  | ex bk i n =>
    obtain ⟨_, h3, h4, h5⟩ := hd
    exact ruleEdges_sb h3 (by omega) h5 hr
  | over i p m =>
    obtain ⟨h1, h2, h3, h4⟩ := hd
    rcases List.mem_append.mp (show r ∈ ruleEdges _ _ _ ++ _ from hr) with hr | hr
    · exact ruleEdges_sb (ru_ok h2.a) (by have := h3.lo; omega) h3.hi hr
    · obtain ⟨x, hx, hr⟩ := List.mem_flatMap.mp hr
      have := mem_upTo.mp hx
      have := h4.hi
      exact ruleEdges_sb (ru_ok h2.b) (by omega) (by omega) hr
  | buy i p home =>
    obtain ⟨h1, h2, h3⟩ := hd
    exact ruleEdges_sb (ru_ok h2.a) (by have := h3.lo; omega) h3.hi hr
  | ret i p home =>
    obtain ⟨h1, h2, h3, _⟩ := hd
    exact ruleEdges_sb (ru_ok h2.a) (by have := h3.lo; omega) h3.hi hr
theorem scriptEdges_sb {W : Wd} {ds : List Deed} (h : ∀ d ∈ ds, DOk W d) {r : Rate} (hr : r ∈ scriptEdges W ds) : Sb 2002000 r := by
  obtain ⟨d, hd, hr⟩ := List.mem_flatMap.mp hr
  exact deedEdges_sb (h d hd) hr
theorem sc_script_edges : Sc ["world", "script", "found", "deed"] ["world", "script"] 69 := ⟨rfl, rfl, rfl, by decide +kernel, rfl, by decide +kernel, by decide +kernel⟩
theorem c_script_edges (E : En K mg) {W : Wd} {ds : List Deed} (h : ∀ d ∈ ds, DOk W d) (hl : ds.length ≤ 16) : Cal P w K mg base 6 "script_edges" [eW W, eDs ds] (.list ((scriptEdges W ds).map eR)) := by
  obtain ⟨f, fd, F, hm⟩ := E.f_script_edges
  have nd := sc_script_edges.nd
  have sz := sizeLine_eq
  refine cal_of (bg := []) F sc_script_edges hm (fun _ _ _ _ _ _ us hl => match us, hl with | [_, _], _ => rfl) rfl (by decide) fun f cdv A outer s' H Ex G hr => ?_
  refine bC (sSet 2 dLst0 nd) ?_
  have lm := scriptEdges_len h
  refine bC (r1 := [.d (eW W), .d (eDs ds), .d (.list ((scriptEdges W ds).map eR)), .u]) (sFor (iT (dv 1)) ?_) (b1 (sRet (dv 2)))
  refine for_acc eD (fun acc => [.d (eW W), .d (eDs ds), .d (.list (acc.map eR)), .u]) (deedEdges W) 12800 ds [] (by show 0 + (scriptEdges W ds).length ≤ 12800; omega) fun d hd acc hacc => ?_
  refine fS (gNm 3 nd) (bC (sSet 2 (dTo (dCatL ?_ (dv 2) (dCall (c_deed_edges E (h d hd)) hr (aC (dv 0) (aC (dv 3) aN)))) (map_app acc _)) nd) (bW [3]))
  rw [List.length_map, List.length_map]
  omega
end Kx
end Sec_P3
section Sec_P4
set_option maxRecDepth 100000
/-! Deeds told, what they do. -/
namespace Kx
open PySem PySem.Spec PyProof.Rows L2 DL AM
variable {P : Program} {w : World} {K : PySem.W.Frag} {mg : Str → Option Value} {base : Heap}
theorem sc_number_told : Sc ["world", "deed", "rate", "shop", "price", "tag"] ["world", "deed", "rate"] 54 := ⟨rfl, rfl, rfl, by decide +kernel, rfl, by decide +kernel, by decide +kernel⟩
theorem c_number_told (E : En K mg) {W : Wd} {d : Deed} {r : Rate} (hd : DOk W d) (hr0 : Sm r) : Cal P w K mg base 3 "number_told" [eW W, eD d, eR r] (eO .int (told W d r)) := by
  obtain ⟨f, fd, F, hm⟩ := E.f_number_told
  have nd := sc_number_told.nd
  refine cal_of (bg := []) F sc_number_told hm (fun _ _ _ _ _ _ us hl => match us, hl with | [_, _, _], _ => rfl) rfl (by decide) fun f cdv A outer s' H Ex G hr => ?_
  cases d with
  | ex bk i n =>
    obtain ⟨o, h1, h2⟩ := office_at hd
    obtain ⟨_, h3, h4, h5⟩ := hd
    cases bk with
    | false => exact bIf (tIn (u65 hr) (.inr rfl) (sh_way false) (by decide +kernel) way_in (dI (dv 1) di) (dTup2 (aC (dg E.s_INTO) (aC (dg E.s_BACK) aN)))) (fun h => brR (b1 (sRet (dCall (c_gives E (bk := false) h3 (by omega) h5 hr0) hr
        (aC (dIxT (xs := [eORu o.1, eORu o.2]) (x := eRu (W.rule i false)) (by rw [← h2]; rfl) (dIxT (xs := W.offices.map eOff) (atI_nat h1) (dI (dv 0) di) (dI (dv 1) di)) (dIf' (x := .int 0) (tEqS (dI (dv 1) di) (dg E.s_INTO)) (fun h => di) (fun h => absurd h (by decide)))) (aC (dI (dv 1) di) (aC (dI (dv 1) di) (aC (dv 2) aN)))))))) fun h => absurd h (by decide)
    | true => exact bIf (tIn (u65 hr) (.inr rfl) (sh_way true) (by decide +kernel) way_in (dI (dv 1) di) (dTup2 (aC (dg E.s_INTO) (aC (dg E.s_BACK) aN)))) (fun h => brR (b1 (sRet (dCall (c_gives E (bk := true) h3 (by omega) h5 hr0) hr
        (aC (dIxT (xs := [eORu o.1, eORu o.2]) (x := eRu (W.rule i true)) (by rw [← h2]; rfl) (dIxT (xs := W.offices.map eOff) (atI_nat h1) (dI (dv 0) di) (dI (dv 1) di)) (dIf' (x := .int 1) (tEqS (dI (dv 1) di) (dg E.s_INTO)) (fun h => absurd h (by decide)) (fun h => di))) (aC (dI (dv 1) di) (aC (dI (dv 1) di) (aC (dv 2) aN)))))))) fun h => absurd h (by decide)
  | over i p m =>
    obtain ⟨h1, h2, h3, h4⟩ := hd
    have hs := atI_nat (shop_at h1)
    refine bIf (tIn (x := .str "over") (u65 hr) (.inr rfl) (by decide +kernel) (by decide +kernel) rfl (dI (dv 1) di) (dTup2 (aC (dg E.s_INTO) (aC (dg E.s_BACK) aN)))) (fun h => absurd h (by decide)) fun h => br0 ?_
    refine bC (sPar 3 4 (aC (dIxT (xs := W.shops.map eShop) hs (dI (dv 0) di) (dI (dv 1) di)) (aC (dI (dv 1) di) aN)) nd) ?_
    refine bC (sSet 5 (dCall (c_tag_of E h2 hr0) hr (aC (dv 3) (aC (dv 4) (aC (dv 2) aN)))) nd) ?_
    refine bIf (tEqS (dI (dv 1) di) (dg E.s_OVER)) (fun h => brR (b1 (sRet' (dIf (tGt (dv 5) (dI (dv 1) di)) (fun _ => dn) (fun _ => dCall (c_change_of E h2 hr0) hr (aC (dv 3) (aC (dSub (dI (dv 1) di) (dv 5)) (aC (dv 2) aN))))) ?_))) fun h => absurd h (by decide)
    unfold told
    simp only [decide_eq_true_eq]
    split <;> rfl
  | buy i p home =>
    obtain ⟨h1, h2, h3⟩ := hd
    have hs := atI_nat (shop_at h1)
    refine bIf (tIn (x := .str "buy") (u65 hr) (.inr rfl) (by decide +kernel) (by decide +kernel) rfl (dI (dv 1) di) (dTup2 (aC (dg E.s_INTO) (aC (dg E.s_BACK) aN)))) (fun h => absurd h (by decide)) fun h => br0 ?_
    refine bC (sPar 3 4 (aC (dIxT (xs := W.shops.map eShop) hs (dI (dv 0) di) (dI (dv 1) di)) (aC (dI (dv 1) di) aN)) nd) ?_
    refine bC (sSet 5 (dCall (c_tag_of E h2 hr0) hr (aC (dv 3) (aC (dv 4) (aC (dv 2) aN)))) nd) ?_
    refine bIf (tEqS (dI (dv 1) di) (dg E.s_OVER)) (fun h => absurd h (by decide)) fun h => br0 (b1 (sRet (dIf' (tEqS (dI (dv 1) di) (dg E.s_HOME)) (fun h => dTo (dv 4) ?_) (fun h => dTo (dv 5) ?_))))
    · cases home <;> first | rfl | (exact absurd h (by decide))
    · cases home <;> first | rfl | (exact absurd h (by decide))
  | ret i p home =>
    obtain ⟨h1, h2, h3, _⟩ := hd
    have hs := atI_nat (shop_at h1)
    refine bIf (tIn (x := .str "return") (u65 hr) (.inr rfl) (by decide +kernel) (by decide +kernel) rfl (dI (dv 1) di) (dTup2 (aC (dg E.s_INTO) (aC (dg E.s_BACK) aN)))) (fun h => absurd h (by decide)) fun h => br0 ?_
    refine bC (sPar 3 4 (aC (dIxT (xs := W.shops.map eShop) hs (dI (dv 0) di) (dI (dv 1) di)) (aC (dI (dv 1) di) aN)) nd) ?_
    refine bC (sSet 5 (dCall (c_tag_of E h2 hr0) hr (aC (dv 3) (aC (dv 4) (aC (dv 2) aN)))) nd) ?_
    refine bIf (tEqS (dI (dv 1) di) (dg E.s_OVER)) (fun h => absurd h (by decide)) fun h => br0 (b1 (sRet (dIf' (tEqS (dI (dv 1) di) (dg E.s_HOME)) (fun h => dTo (dv 4) ?_) (fun h => dTo (dv 5) ?_))))
    · cases home <;> first | rfl | (exact absurd h (by decide))
    · cases home <;> first | rfl | (exact absurd h (by decide))
/-! ### things -/
structure TOk (t : Thing) : Prop where
  a : 0 ≤ t.1
  b : 0 ≤ t.2
  c : t.2 < 100
def mark (t : Thing) : Int := 100 * t.1 + t.2
theorem unmark {t : Thing} (h : TOk t) : (mark t / 100, mark t % 100) = t := by
  obtain ⟨h1, h2, h3⟩ := h
  unfold mark
  exact Prod.ext (by dsimp only; omega) (by dsimp only; omega)
theorem mark_le {a b : Thing} (ha : TOk a) (hb : TOk b) : leT a b = PySem.W.dataLe false PyData.int (mark a) (mark b) := by
  rw [show PySem.W.dataLe false PyData.int = fun a b : Int => decide (a ≤ b) from PySem.W.dataLe_int fun b => b]
  obtain ⟨a1, a2, a3⟩ := ha
  obtain ⟨b1, b2, b3⟩ := hb
  unfold leT mark
  refine decide_eq_decide.mpr ?_
  omega
theorem withThing_eq {l : List Thing} {t : Thing} (hl : ∀ x ∈ l, TOk x) (ht : TOk t) : (((l ++ [t]).map mark).mergeSort (PySem.W.dataLe false PyData.int)).map (fun m => (m / 100, m % 100)) = withThing l t := by
  have h : ∀ x ∈ l ++ [t], TOk x := fun x hx => by
    rcases List.mem_append.mp hx with z | z
    · exact hl x z
    · rw [List.mem_singleton.mp z]; exact ht
  unfold withThing
  rw [← PySem.W.sort_maps (r := leT) mark fun a ha b hb => mark_le (h a ha) (h b hb), List.map_map]
  refine (List.map_congr_left fun x hx => ?_).trans (List.map_id _)
  exact unmark (h x ((List.mergeSort_perm _ _).mem_iff.mp hx))
theorem sc_with_thing : Sc ["things", "thing", "marks", "shop", "price", "mark"] ["things", "thing"] 55 := ⟨rfl, rfl, rfl, by decide +kernel, rfl, by decide +kernel, by decide +kernel⟩
theorem c_with_thing (E : En K mg) {l : List Thing} {t : Thing} (hl : ∀ x ∈ l, TOk x) (ht : TOk t) (hn : l.length ≤ 100) : Cal P w K mg base 1 "with_thing" [.tuple (l.map eR), eR t] (.tuple ((withThing l t).map eR)) := by
  obtain ⟨f, fd, F, hm⟩ := E.f_with_thing
  have nd := sc_with_thing.nd
  have sz := sizeLine_eq
  refine cal_of (bg := []) F sc_with_thing hm (fun _ _ _ _ _ _ us hl => match us, hl with | [_, _], _ => rfl) rfl (by decide) fun f cdv A outer s' H Ex G hr => ?_
  refine bC (r1 := [.d (.tuple (l.map eR)), .d (eR t), .d (.list ((((l ++ [t]).map mark).mergeSort (PySem.W.dataLe false PyData.int)).map .int)), .u, .u, .u])
    (sSet 2 (r1 := [.d (.tuple (l.map eR)), .d (eR t), .u, .u, .u, .u]) (dSort E.b_sorted hr.units (fun a b => by simp [PySem.W.alike]) (PySem.W.Sortable.others fun b => ⟨nofun, nofun⟩) (fun b => by simp [PyData.depth])
      (dLc (own := [("shop", 3), ("price", 4)]) (iTo (iT (dCatT (xs := l.map eR) (ys := [eR t]) (by rw [List.length_map]; simp; omega) (dv 0) (dTup1 (dv 1)))) (ys := (l ++ [t]).map eR) (by rw [List.map_append]; rfl)) (noM rfl) (comp_map eR .int mark _ fun x hx =>
        cTake (fun _ _ _ _ _ _ => gTu (gC (gNm 3 nd) (gC (gNm 4 nd) gN))) (by decide) (fun _ _ _ _ _ _ => dInt E.b_int (aC (dAdd (dMul (by simp only [CMul]; omega) di (dv 3)) (dv 4)) aN))) (by rw [List.length_map, List.length_append]; simp; omega) nd (by rfl))) nd) ?_
  refine b1 (sRet' (r1 := [.d (.tuple (l.map eR)), .d (eR t), .d (.list ((((l ++ [t]).map mark).mergeSort (PySem.W.dataLe false PyData.int)).map .int)), .u, .u, .u]) (dTupOf E.b_tuple
    (dLc (own := [("mark", 5)]) (iL (dv 2)) (noM rfl) (comp_map .int eR (fun m => (m / 100, m % 100)) _ fun x hx =>
        cTake (fun _ _ _ _ _ _ => gNm 5 nd) (by decide) (fun _ _ _ _ _ _ => dTup2 (aC (dDiv (cdiv (by decide) (by decide)) (dv 5) di) (aC (dMod (by decide) (dv 5) di) aN)))) (by simp; omega) nd (by rfl))) ?_)
  rw [withThing_eq hl ht]
/-! ### what a deed does -/
theorem sc_effect : Sc ["deed", "number", "sign"] ["deed", "number"] 56 := ⟨rfl, rfl, rfl, by decide +kernel, rfl, by decide +kernel, by decide +kernel⟩
theorem c_effect (E : En K mg) {d : Deed} {x : Int} : Cal P w K mg base 1 "effect" [eD d, .int x] (eR (effect d x)) := by
  obtain ⟨f, fd, F, hm⟩ := E.f_effect
  have nd := sc_effect.nd
  refine cal_of (bg := []) F sc_effect hm (fun _ _ _ _ _ _ us hl => match us, hl with | [_, _], _ => rfl) rfl (by decide) fun f cdv A outer s' H Ex G hr => ?_
  have cm : ∀ x, CMul (-1) x := fun x => by simp only [CMul]; omega
  have cp : ∀ x, CMul 1 x := fun x => by simp only [CMul]; omega
  cases d with
  | ex bk i n =>
    cases bk with
    | false => exact bIf (tEqS (dI (dv 0) di) (dg E.s_INTO)) (fun h => brR (b1 (sRet (dTup2 (aC (dSub di (dI (dv 0) di)) (aC (dv 1) aN)))))) (fun h => absurd h (by decide))
    | true => exact bIf (tEqS (dI (dv 0) di) (dg E.s_INTO)) (fun h => absurd h (by decide)) fun h => br0 (bIf (tEqS (dI (dv 0) di) (dg E.s_BACK)) (fun h => brR (b1 (sRet (dTup2 (aC (dv 1) (aC (dSub di (dI (dv 0) di)) aN)))))) (fun h => absurd h (by decide)))
  | over i p m =>
    exact bIf (tEqS (dI (dv 0) di) (dg E.s_INTO)) (fun h => absurd h (by decide)) fun h => br0 (bIf (tEqS (dI (dv 0) di) (dg E.s_BACK)) (fun h => absurd h (by decide)) fun h => br0 (bIf (tEqS (dI (dv 0) di) (dg E.s_OVER))
      (fun h => brR (b1 (sRet (dTup2 (aC (dv 1) (aC (dSub di (dI (dv 0) di)) aN)))))) (fun h => absurd h (by decide))))
  | buy i p home =>
    refine bIf (tEqS (dI (dv 0) di) (dg E.s_INTO)) (fun h => absurd h (by decide)) fun h => br0 (bIf (tEqS (dI (dv 0) di) (dg E.s_BACK)) (fun h => absurd h (by decide)) fun h => br0 (bIf (tEqS (dI (dv 0) di) (dg E.s_OVER)) (fun h => absurd h (by decide)) fun h => br0 ?_))
    refine bC (sSet 2 (dIf' (x := .int (-1)) (tEqS (dI (dv 0) di) (dg E.s_BUY)) (fun h => dNeg di) (fun h => absurd h (by decide))) nd) ?_
    refine b1 (sRet (dIf' (tEqS (dI (dv 0) di) (dg E.s_HOME)) (fun h => dTo (dTup2 (aC (dMul (cm _) (dv 2) (dv 1)) (aC di aN))) ?_) (fun h => dTo (dTup2 (aC di (aC (dMul (cm _) (dv 2) (dv 1)) aN))) ?_)))
    · cases home <;> first | rfl | (exact absurd h (by decide))
    · cases home <;> first | rfl | (exact absurd h (by decide))
  | ret i p home =>
    refine bIf (tEqS (dI (dv 0) di) (dg E.s_INTO)) (fun h => absurd h (by decide)) fun h => br0 (bIf (tEqS (dI (dv 0) di) (dg E.s_BACK)) (fun h => absurd h (by decide)) fun h => br0 (bIf (tEqS (dI (dv 0) di) (dg E.s_OVER)) (fun h => absurd h (by decide)) fun h => br0 ?_))
    refine bC (sSet 2 (dIf' (x := .int 1) (tEqS (dI (dv 0) di) (dg E.s_BUY)) (fun h => absurd h (by decide)) (fun h => di)) nd) ?_
    refine b1 (sRet (dIf' (tEqS (dI (dv 0) di) (dg E.s_HOME)) (fun h => dTo (dTup2 (aC (dMul (cp _) (dv 2) (dv 1)) (aC di aN))) ?_) (fun h => dTo (dTup2 (aC di (aC (dMul (cp _) (dv 2) (dv 1)) aN))) ?_)))
    · cases home <;> first | rfl | (exact absurd h (by decide))
    · cases home <;> first | rfl | (exact absurd h (by decide))
theorem sc_need_of : Sc ["deed", "number", "home", "far"] ["deed", "number"] 57 := ⟨rfl, rfl, rfl, by decide +kernel, rfl, by decide +kernel, by decide +kernel⟩
theorem max_if (x : Int) : (if x > 0 then x else 0) = max 0 x := by split <;> omega
theorem c_need_of (E : En K mg) {d : Deed} {x : Int} : Cal P w K mg base 2 "need_of" [eD d, .int x] (eR (need d x)) := by
  obtain ⟨f, fd, F, hm⟩ := E.f_need_of
  have nd := sc_need_of.nd
  refine cal_of (bg := []) F sc_need_of hm (fun _ _ _ _ _ _ us hl => match us, hl with | [_, _], _ => rfl) rfl (by decide) fun f cdv A outer s' H Ex G hr => ?_
  refine bC (sAsg (dCall (c_effect E) hr (aC (dv 0) (aC (dv 1) aN))) (gTu (gC (gNm 2 nd) (gC (gNm 3 nd) gN)))) ?_
  have last : ∀ e : Int × Int, PyData.tuple [.int (if 0 - e.1 > 0 then 0 - e.1 else 0), .int (if 0 - e.2 > 0 then 0 - e.2 else 0)] = eR (max 0 (0 - e.1), max 0 (0 - e.2)) := fun e => by
    unfold eR
    rw [max_if, max_if]
  cases d with
  | over i p m => exact bIf (tEqS (dI (dv 0) di) (dg E.s_OVER)) (fun h => brR (b1 (sRet (dTup2 (aC di (aC (dI (dv 0) di) aN)))))) (fun h => absurd h (by decide))
  | ex bk i n =>
    refine bIf (tEqS (p := wayS bk) (dI (dv 0) di) (dg E.s_OVER)) (fun h => absurd h (by cases bk <;> decide)) fun h => br0 (b1 (sRet' (dTup2 (aC (dMax E.b_max (aC di (aC (dSub di (dv 2)) aN))) (aC (dMax E.b_max (aC di (aC (dSub di (dv 3)) aN))) aN))) ?_))
    exact last _
  | buy i p home =>
    refine bIf (tEqS (dI (dv 0) di) (dg E.s_OVER)) (fun h => absurd h (by decide)) fun h => br0 (b1 (sRet' (dTup2 (aC (dMax E.b_max (aC di (aC (dSub di (dv 2)) aN))) (aC (dMax E.b_max (aC di (aC (dSub di (dv 3)) aN))) aN))) ?_))
    exact last _
  | ret i p home =>
    refine bIf (tEqS (dI (dv 0) di) (dg E.s_OVER)) (fun h => absurd h (by decide)) fun h => br0 (b1 (sRet' (dTup2 (aC (dMax E.b_max (aC di (aC (dSub di (dv 2)) aN))) (aC (dMax E.b_max (aC di (aC (dSub di (dv 3)) aN))) aN))) ?_))
    exact last _
theorem sc_thing_by : Sc ["deed"] ["deed"] 58 := ⟨rfl, rfl, rfl, by decide +kernel, rfl, by decide +kernel, by decide +kernel⟩
theorem c_thing_by (E : En K mg) {d : Deed} : Cal P w K mg base 1 "thing_by" [eD d] (.tuple [.int d.many, eO eR d.thing]) := by
  obtain ⟨f, fd, F, hm⟩ := E.f_thing_by
  refine cal_of (bg := []) F sc_thing_by hm (fun _ _ _ _ _ _ us hl => match us, hl with | [_], _ => rfl) rfl (by decide) fun f cdv A outer s' H Ex G hr => ?_
  cases d with
  | ex bk i n =>
    refine bIf (tIn (u65 hr) (.inr rfl) (sh_way bk) (by decide +kernel) way_in (dI (dv 0) di) (dTup2 (aC (dg E.s_INTO) (aC (dg E.s_BACK) aN)))) (fun h => brR (b1 (sRet (dTup2 (aC di (aC dn aN)))))) fun h => absurd h (by decide)
  | over i p m =>
    exact bIf (tIn (x := .str "over") (u65 hr) (.inr rfl) (by decide +kernel) (by decide +kernel) rfl (dI (dv 0) di) (dTup2 (aC (dg E.s_INTO) (aC (dg E.s_BACK) aN)))) (fun h => absurd h (by decide)) fun h => br0 (b1 (sRet (dTup2 (aC (dIf' (x := .int 1)
      (tIn (x := .str "over") (u65 hr) (.inr rfl) (by decide +kernel) (by decide +kernel) rfl (dI (dv 0) di) (dTup2 (aC (dg E.s_BUY) (aC (dg E.s_OVER) aN)))) (fun _ => di) (fun h => absurd h (by decide))) (aC (dTup2 (aC (dI (dv 0) di) (aC (dI (dv 0) di) aN))) aN)))))
  | buy i p home =>
    exact bIf (tIn (x := .str "buy") (u65 hr) (.inr rfl) (by decide +kernel) (by decide +kernel) rfl (dI (dv 0) di) (dTup2 (aC (dg E.s_INTO) (aC (dg E.s_BACK) aN)))) (fun h => absurd h (by decide)) fun h => br0 (b1 (sRet (dTup2 (aC (dIf' (x := .int 1)
      (tIn (x := .str "buy") (u65 hr) (.inr rfl) (by decide +kernel) (by decide +kernel) rfl (dI (dv 0) di) (dTup2 (aC (dg E.s_BUY) (aC (dg E.s_OVER) aN)))) (fun _ => di) (fun h => absurd h (by decide))) (aC (dTup2 (aC (dI (dv 0) di) (aC (dI (dv 0) di) aN))) aN)))))
  | ret i p home =>
    exact bIf (tIn (x := .str "return") (u65 hr) (.inr rfl) (by decide +kernel) (by decide +kernel) rfl (dI (dv 0) di) (dTup2 (aC (dg E.s_INTO) (aC (dg E.s_BACK) aN)))) (fun h => absurd h (by decide)) fun h => br0 (b1 (sRet (dTup2 (aC (dIf' (x := .int (-1))
      (tIn (x := .str "return") (u65 hr) (.inr rfl) (by decide +kernel) (by decide +kernel) rfl (dI (dv 0) di) (dTup2 (aC (dg E.s_BUY) (aC (dg E.s_OVER) aN)))) (fun h => absurd h (by decide)) (fun _ => dNeg di)) (aC (dTup2 (aC (dI (dv 0) di) (aC (dI (dv 0) di) aN))) aN)))))
end Kx
end Sec_P4
section Sec_P5
set_option maxRecDepth 100000
/-! behind, led_by, costs. -/
namespace Kx
open PySem PySem.Spec PyProof.Rows L2 DL AM
variable {P : Program} {w : World} {K : PySem.W.Frag} {mg : Str → Option Value} {base : Heap}
theorem lay_Rs : ∀ l : List (Int × Int), PyData.canLayAll0 (l.map eR) = true ∧ PyData.depthAll (l.map eR) ≤ 1
  | [] => by simp [PyData.canLayAll0, PyData.depthAll]
  | x :: l => by
    obtain ⟨h1, h2⟩ := lay_Rs l
    have e1 : (eR x).canLay0 = true := by simp [eR, PyData.canLay0, PyData.canLayAll0]
    have e2 : (eR x).depth ≤ 1 := by simp [eR, PyData.depth, PyData.depthAll]
    refine ⟨by rw [List.map_cons, PyData.canLayAll0, e1, h1]; rfl, ?_⟩
    rw [List.map_cons, PyData.depthAll]
    omega
theorem sh_Rs (l : List (Int × Int)) : SeqAt.shaped (.list (l.map eR)) = true := by
  obtain ⟨h1, h2⟩ := lay_Rs l
  have h3 : (PyData.list (l.map eR)).depth ≤ 64 := by
    rw [PyData.depth]
    omega
  simp [SeqAt.shaped, PyData.canLay0, h1, h3]
theorem any_R (l : List (Int × Int)) (t : Int × Int) : ((l.map eR).any fun z => PyData.eqv z (eR t)) = decide (t ∈ l) := by
  rw [List.any_map]
  induction l with
  | nil => rfl
  | cons x l ih =>
    rw [List.any_cons, ih]
    show (PyData.eqv (eR x) (eR t) || decide (t ∈ l)) = _
    rw [eqv_R, ← Bool.decide_or]
    refine decide_eq_decide.mpr ?_
    rw [List.mem_cons]
    exact ⟨fun h => h.imp Eq.symm id, fun h => h.imp Eq.symm id⟩
theorem idx_at {l : List (Int × Int)} {t : Int × Int} (h : t ∈ l) : l[l.idxOf t]? = some t := by
  have hl : l.findIdx (· == t) < l.length := List.findIdx_lt_length_of_exists ⟨t, h, by simp⟩
  have e := List.findIdx_getElem (w := hl)
  show l[l.findIdx (· == t)]? = some t
  rw [List.getElem?_eq_getElem hl]
  exact congrArg some (eq_of_beq e)
theorem idx_R {l : List (Int × Int)} {t : Int × Int} (h : t ∈ l) : (l.map eR)[l.idxOf t]? = some (eR t) ∧ ∀ (m : Nat) (z : PyData), m < l.idxOf t → (l.map eR)[m]? = some z → PyData.eqv z (eR t) = false := by
  refine ⟨by rw [List.getElem?_map, idx_at h]; rfl, fun m z hm hz => ?_⟩
  rw [List.getElem?_map] at hz
  obtain ⟨x, hx, rfl⟩ := Option.map_eq_some_iff.mp hz
  rw [eqv_R]
  refine decide_eq_false fun e => ?_
  have n := List.not_of_lt_findIdx (p := (· == t)) (xs := l) hm
  have e2 := (List.getElem?_eq_some_iff.mp hx).2
  rw [e2, e] at n
  simp at n
theorem cut_take {α : Type} (l : List α) (n : Nat) (h : n ≤ l.length) : cut l none (some (n : Int)) = l.take n := by
  unfold cut
  rw [HT.sIx_nat]
  show (l.drop 0).take (min n l.length - 0) = _
  rw [List.drop_zero, Nat.sub_zero, Nat.min_eq_left h]
theorem cut_drop {α : Type} (l : List α) (n : Nat) (h : n ≤ l.length) : cut l (some (n : Int)) none = l.drop n := by
  unfold cut
  rw [HT.sIx_nat, Nat.min_eq_left h]
  show (l.drop n).take (l.length - n) = _
  exact List.take_of_length_le (by rw [List.length_drop]; exact Nat.le_refl _)
structure StOk (st : Stand) : Prop where
  t : ∀ x ∈ st.things, TOk x
  n : st.things.length ≤ 50
theorem sc_behind : Sc ["stand", "deed", "number", "home", "far", "things", "many", "thing", "more", "also", "at"] ["stand", "deed", "number"] 59 := ⟨rfl, rfl, rfl, by decide +kernel, rfl, by decide +kernel, by decide +kernel⟩
theorem c_behind (E : En K mg) {st : Stand} {d : Deed} {x : Option Int} (hst : StOk st) (ht : ∀ t, d.thing = some t → TOk t) : Cal P w K mg base 3 "behind" [eStand st, eD d, eO .int x] (eO eStand (behind st d x)) := by
  obtain ⟨f, fd, F, hm⟩ := E.f_behind
  have nd := sc_behind.nd
  refine cal_of (bg := []) F sc_behind hm (fun _ _ _ _ _ _ us hl => match us, hl with | [_, _, _], _ => rfl) rfl (by decide) fun f cdv A outer s' H Ex G hr => ?_
  refine bC (sAsg (dv 0) (gTu (gC (gNm 3 nd) (gC (gNm 4 nd) (gC (gNm 5 nd) gN))))) ?_
  refine bC (r1 := [.d (eStand st), .d (eD d), .d (eO .int x), .d (.int st.home), .d (.int st.far), .d (.tuple (st.things.map eR)), .d (.int d.many), .d (eO eR d.thing), .u, .u, .u]) (sAsg (dCall (c_thing_by E) (hr.mono (by decide)) (aC (dv 1) aN)) (gTu (gC (gNm 6 nd) (gC (gNm 7 nd) gN)))) ?_
  cases x with
  | none => exact bIf (tW (wOr (tIsN' (dv 2)) (fun h => absurd h (by decide)) (l := false))) (fun h => brR (b1 (sRet dn))) (fun h => absurd h (by decide))
  | some x =>
    refine bIf (tW (wOr (tIsN' (dv 2)) fun _ => wOr (tLt (dv 3) (dI (dCall (c_need_of E) hr (aC (dv 1) (aC (dv 2) aN))) di)) fun _ => wOr1 (tLt (dv 4) (dI (dCall (c_need_of E) hr (aC (dv 1) (aC (dv 2) aN))) di)))) (fun h => brR (b1 (sRet' dn ?_))) fun h => br0 ?_
    · have hk : (decide (st.home < (need d x).1) || decide (st.far < (need d x).2)) = true := h
      rw [Bool.or_eq_true, decide_eq_true_eq, decide_eq_true_eq] at hk
      show PyData.none = eO eStand (if st.home < (need d x).1 ∨ st.far < (need d x).2 ∨ d.lacks st.things = true then none else _)
      rw [if_pos (hk.imp id .inl)]
      rfl
    have hk : (decide (st.home < (need d x).1) || decide (st.far < (need d x).2)) = false := h
    rw [Bool.or_eq_false_iff, decide_eq_false_iff_not, decide_eq_false_iff_not] at hk
    have res : behind st d (some x) = if d.lacks st.things = true then none else some ⟨st.home + (effect d x).1, st.far + (effect d x).2, newThings d st.things⟩ := by
      show (if st.home < (need d x).1 ∨ st.far < (need d x).2 ∨ d.lacks st.things = true then none else _) = _
      by_cases hl : d.lacks st.things = true
      · rw [if_pos (.inr (.inr hl)), if_pos hl]
      · rw [if_neg hl, if_neg (by rintro (z | z | z); exact hk.1 z; exact hk.2 z; exact hl z)]
    rw [res]
    have sz := sizeLine_eq
    have kinds : (d.many = 0 ∧ d.lacks st.things = false ∧ newThings d st.things = st.things) ∨ (∃ t, d.many = 1 ∧ d.thing = some t ∧ d.lacks st.things = false ∧ newThings d st.things = withThing st.things t) ∨
        ∃ t, d.many = -1 ∧ d.thing = some t ∧ d.lacks st.things = decide (t ∉ st.things) ∧ newThings d st.things = AM.without st.things t := by
      cases d with
      | ex bk i n => exact .inl ⟨rfl, rfl, rfl⟩
      | over i p m => exact .inr (.inl ⟨_, rfl, rfl, rfl, rfl⟩)
      | buy i p home => exact .inr (.inl ⟨_, rfl, rfl, rfl, rfl⟩)
      | ret i p home => exact .inr (.inr ⟨_, rfl, rfl, rfl, rfl⟩)
    rcases kinds with ⟨k1, k3, k4⟩ | ⟨t, k1, k2, k3, k4⟩ | ⟨t, k1, k2, k3, k4⟩
    · rw [k3, if_neg Bool.false_ne_true, k4]
      refine bIf (tW (wAnd (tTo (tLt (dv 6) di) (l := false) (by rw [k1]; rfl)) (fun h => absurd h (by decide)) (l := false))) (fun h => absurd h (by decide)) fun _ => br0 ?_
      refine bC (r1 := [.d (eStand st), .d (eD d), .d (.int x), .d (.int st.home), .d (.int st.far), .d (.tuple (st.things.map eR)), .d (.int d.many), .d (eO eR d.thing), .d (.int (effect d x).1), .d (.int (effect d x).2), .u]) (sAsg (dCall (c_effect E) (hr.mono (by decide)) (aC (dv 1) (aC (dv 2) aN))) (gTu (gC (gNm 8 nd) (gC (gNm 9 nd) gN)))) ?_
      refine bIf (tTo (tGt (dv 6) di) (l := false) (by rw [k1]; rfl)) (fun h => absurd h (by decide)) fun _ => br0 ?_
      refine bIf (tTo (tLt (dv 6) di) (l := false) (by rw [k1]; rfl)) (fun h => absurd h (by decide)) fun _ => br0 ?_
      exact b1 (sRet (dTup3 (aC (dAdd (dv 3) (dv 8)) (aC (dAdd (dv 4) (dv 9)) (aC (dv 5) aN)))))
    · rw [k3, if_neg Bool.false_ne_true, k4]
      refine bIf (tW (wAnd (tTo (tLt (dv 6) di) (l := false) (by rw [k1]; rfl)) (fun h => absurd h (by decide)) (l := false))) (fun h => absurd h (by decide)) fun _ => br0 ?_
      refine bC (r1 := [.d (eStand st), .d (eD d), .d (.int x), .d (.int st.home), .d (.int st.far), .d (.tuple (st.things.map eR)), .d (.int d.many), .d (eO eR d.thing), .d (.int (effect d x).1), .d (.int (effect d x).2), .u]) (sAsg (dCall (c_effect E) (hr.mono (by decide)) (aC (dv 1) (aC (dv 2) aN))) (gTu (gC (gNm 8 nd) (gC (gNm 9 nd) gN)))) ?_
      refine bIf (tTo (tGt (dv 6) di) (l := true) (by rw [k1]; rfl)) (fun _ => brN (b1 (sSet 5 (dCall (c_with_thing E hst.t (ht t k2) (by have := hst.n; omega)) (hr.mono (by decide)) (aC (dv 5) (aC (dTo (dv 7) (by rw [k2]; rfl)) aN))) nd)) ?_) fun h => absurd h (by decide)
      refine bIf (tTo (tLt (dv 6) di) (l := false) (by rw [k1]; rfl)) (fun h => absurd h (by decide)) fun _ => br0 ?_
      exact b1 (sRet (dTup3 (aC (dAdd (dv 3) (dv 8)) (aC (dAdd (dv 4) (dv 9)) (aC (dv 5) aN)))))
    · rw [k3, k4]
      refine bIf (tW (wAnd (tTo (tLt (dv 6) di) (l := true) (by rw [k1]; rfl)) fun _ => wAnd1 (tNotIn (k := decide (t ∉ st.things)) (u65 hr) (.inr rfl) (sh_R t) (sh_Rs st.things) (by rw [any_R, ← decide_not]) (dTo (dv 7) (by rw [k2]; rfl)) (dv 5)))) (fun h => brR (b1 (sRet' dn ?_))) fun h => br0 ?_
      · have h' : decide (t ∉ st.things) = true := h
        rw [h', if_pos rfl]
        rfl
      have h' : decide (t ∉ st.things) = false := h
      have hin : t ∈ st.things := Classical.byContradiction fun c => of_decide_eq_false h' c
      rw [h', if_neg Bool.false_ne_true]
      obtain ⟨i1, i2⟩ := idx_R hin
      have hlt : st.things.idxOf t < st.things.length := (List.getElem?_eq_some_iff.mp (idx_at hin)).1
      refine bC (r1 := [.d (eStand st), .d (eD d), .d (.int x), .d (.int st.home), .d (.int st.far), .d (.tuple (st.things.map eR)), .d (.int d.many), .d (eO eR d.thing), .d (.int (effect d x).1), .d (.int (effect d x).2), .u]) (sAsg (dCall (c_effect E) (hr.mono (by decide)) (aC (dv 1) (aC (dv 2) aN))) (gTu (gC (gNm 8 nd) (gC (gNm 9 nd) gN)))) ?_
      refine bIf (tTo (tGt (dv 6) di) (l := false) (by rw [k1]; rfl)) (fun h => absurd h (by decide)) fun _ => br0 ?_
      refine bIf (tTo (tLt (dv 6) di) (l := true) (by rw [k1]; rfl)) (fun _ => brN (bC (sSet 10 (dIndexT (j := st.things.idxOf t) (z := eR t) (u65 hr) (sh_Rs st.things) (sh_R t) i1 (by rw [eqv_R]; exact decide_eq_true rfl) i2 (dv 5) (dTo (dv 7) (by rw [k2]; rfl))) nd)
        (b1 (sSet 5 (dCatT (xs := (st.things.take (st.things.idxOf t)).map eR) (ys := (st.things.drop (st.things.idxOf t + 1)).map eR) ?_ (dTo (dSlT (dv 5) oN (oS (dv 10))) ?_) (dTo (dSlT (dv 5) (oS (dAdd (dv 10) di)) oN) ?_)) nd))) ?_) fun h => absurd h (by decide)
      · have := hst.n
        simp
        omega
      · rw [cut_take _ _ (by rw [List.length_map]; omega), List.map_take]
      · rw [show ((st.things.idxOf t : Nat) : Int) + 1 = ((st.things.idxOf t + 1 : Nat) : Int) by omega, cut_drop _ _ (by rw [List.length_map]; omega), List.map_drop]
      · refine b1 (sRet' (dTup3 (aC (dAdd (dv 3) (dv 8)) (aC (dAdd (dv 4) (dv 9)) (aC (dv 5) aN)))) ?_)
        show PyData.tuple [_, _, .tuple _] = PyData.tuple [_, _, .tuple ((AM.without st.things t).map eR)]
        unfold AM.without
        rw [List.map_append]
theorem behind_ok {st st' : Stand} {d : Deed} {x : Option Int} (hst : ∀ y ∈ st.things, TOk y) (ht : ∀ t, d.thing = some t → TOk t) (h : behind st d x = some st') : (∀ y ∈ st'.things, TOk y) ∧ st'.things.length ≤ st.things.length + 1 := by
  cases x with
  | none => cases h
  | some x =>
    have h' : (if st.home < (need d x).1 ∨ st.far < (need d x).2 ∨ d.lacks st.things = true then none else some (⟨st.home + (effect d x).1, st.far + (effect d x).2, newThings d st.things⟩ : Stand)) = some st' := h
    split at h'
    · cases h'
    · cases h'
      have wt : ∀ t, TOk t → (∀ y ∈ withThing st.things t, TOk y) ∧ (withThing st.things t).length ≤ st.things.length + 1 := fun t ht => by
        refine ⟨fun y hy => ?_, by unfold withThing; rw [List.length_mergeSort, List.length_append]; exact Nat.le_refl _⟩
        rcases List.mem_append.mp ((List.mergeSort_perm _ _).mem_iff.mp hy) with z | z
        · exact hst y z
        · rw [List.mem_singleton.mp z]; exact ht
      cases d with
      | ex bk i n => exact ⟨hst, Nat.le_succ _⟩
      | over i p m => exact wt _ (ht _ rfl)
      | buy i p home => exact wt _ (ht _ rfl)
      | ret i p home =>
        refine ⟨fun y hy => ?_, ?_⟩
        · rcases List.mem_append.mp (show y ∈ st.things.take _ ++ st.things.drop _ from hy) with z | z
          · exact hst y (List.mem_of_mem_take z)
          · exact hst y (List.mem_of_mem_drop z)
        · show (st.things.take _ ++ st.things.drop _).length ≤ _
          simp
          omega
theorem thing_ok {W : Wd} {d : Deed} (h : DOk W d) : ∀ t, d.thing = some t → TOk t := fun t e => by
  cases d with
  | ex bk i n => cases e
  | over i p m =>
    obtain ⟨_, _, h3, _⟩ := h
    cases e
    exact ⟨by show (0 : Int) ≤ i; omega, by have := h3.lo; show 0 ≤ p; omega, by have := h3.hi; show p < 100; omega⟩
  | buy i p home =>
    obtain ⟨_, _, h3⟩ := h
    cases e
    exact ⟨by show (0 : Int) ≤ i; omega, by have := h3.lo; show 0 ≤ p; omega, by have := h3.hi; show p < 100; omega⟩
  | ret i p home =>
    obtain ⟨_, _, h3, _⟩ := h
    cases e
    exact ⟨by show (0 : Int) ≤ i; omega, by have := h3.lo; show 0 ≤ p; omega, by have := h3.hi; show p < 100; omega⟩
def eLed (q : Stand × List Int × Option Nat) : PyData := .tuple [eStand q.1, .list (q.2.1.map .int), eON q.2.2]
def ledOut (ρ : Stand → List Int → Rho) (enc : Stand × List Int × Option Nat → PyData) (q : Stand × List Int × Option Nat) : Out := match q.2.2 with
  | none => .nx (ρ q.1 q.2.1)
  | some _ => .rt (enc q) []
/-- a loop over the deeds of all, from the i-th on -/
theorem for_led {S : Rho → PyData → Out → Prop} (ρ : Stand → List Int → Rho) (enc : Stand × List Int × Option Nat → PyData) (it : Nat → Deed → PyData) (W : Wd) (r : Rate) (all : List Deed) (J : Nat → Stand → List Int → Prop)
    (hJ : ∀ i cur found d x st', i < all.length → all[i]? = some d → J i cur found → told W d r = some x → behind cur d (some x) = some st' → J (i + 1) st' (found ++ [x]))
    (h0 : ∀ i cur found d, all[i]? = some d → J i cur found → told W d r = none → S (ρ cur found) (it i d) (.rt (enc (cur, found, some i)) []))
    (h1 : ∀ i cur found d x, all[i]? = some d → J i cur found → told W d r = some x → behind cur d (some x) = none → S (ρ cur found) (it i d) (.rt (enc (cur, found, some i)) []))
    (h2 : ∀ i cur found d x st', all[i]? = some d → J i cur found → told W d r = some x → behind cur d (some x) = some st' → S (ρ cur found) (it i d) (.nx (ρ st' (found ++ [x])))) :
    ∀ (rest : List Deed) (i : Nat) (cur : Stand) (found : List Int), (∀ j, rest[j]? = all[i + j]?) → J i cur found → ForR S (ρ cur found) ((rest.zipIdx i).map fun q => it q.2 q.1) (ledOut ρ enc (ledGo W r i cur found rest))
  | [], i, cur, found, _, _ => .nil
  | d :: rest, i, cur, found, hr, hj => by
    have hd : all[i]? = some d := (hr 0).symm
    have hlt : i < all.length := (List.getElem?_eq_some_iff.mp hd).1
    rw [List.zipIdx_cons, List.map_cons]
    cases ht : told W d r with
    | none =>
      have e : ledGo W r i cur found (d :: rest) = (cur, found, some i) := by rw [ledGo, ht]
      rw [e]
      exact .stop (h0 i cur found d hd hj ht)
    | some x =>
      cases hb : behind cur d (some x) with
      | none =>
        have e : ledGo W r i cur found (d :: rest) = (cur, found, some i) := by rw [ledGo, ht]; dsimp only; rw [hb]
        rw [e]
        exact .stop (h1 i cur found d x hd hj ht hb)
      | some st' =>
        have e : ledGo W r i cur found (d :: rest) = ledGo W r (i + 1) st' (found ++ [x]) rest := by rw [ledGo, ht]; dsimp only; rw [hb]
        rw [e]
        exact .step (h2 i cur found d x st' hd hj ht hb) (for_led ρ enc it W r all J hJ h0 h1 h2 rest (i + 1) st' (found ++ [x]) (fun j => by
          have := hr (j + 1)
          rw [List.getElem?_cons_succ] at this
          rw [this]
          congr 1
          omega) (hJ i cur found d x st' hlt hd hj ht hb))
theorem enD_zip (ds : List Deed) : enD (ds.map eD) = (ds.zipIdx 0).map fun q => .tuple [.int (q.2 : Nat), eD q.1] := by
  refine List.ext_getElem? fun i => ?_
  unfold enD
  rw [List.getElem?_map, List.getElem?_map, List.getElem?_zipIdx]
  by_cases h : i < ds.length
  · simp [h, List.getD_eq_getElem?_getD]
  · simp [h]
theorem sc_led_by : Sc ["world", "stand", "deeds", "rate", "found", "index", "deed", "number", "there"] ["world", "stand", "deeds", "rate"] 60 := ⟨rfl, rfl, rfl, by decide +kernel, rfl, by decide +kernel, by decide +kernel⟩
theorem c_led_by (E : En K mg) {W : Wd} {st : Stand} {ds : List Deed} {r : Rate} (h : ∀ d ∈ ds, DOk W d) (hl : ds.length ≤ 16) (hst : ∀ y ∈ st.things, TOk y) (hn : st.things.length ≤ 20) (hr0 : Sm r) :
    Cal P w K mg base 4 "led_by" [eW W, eStand st, eDs ds, eR r] (eLed (led W st ds r)) := by
  obtain ⟨f, fd, F, hm⟩ := E.f_led_by
  have nd := sc_led_by.nd
  have sz := sizeLine_eq
  refine cal_of (bg := []) F sc_led_by hm (fun _ _ _ _ _ _ us hl => match us, hl with | [_, _, _, _], _ => rfl) rfl (by decide) fun f cdv A outer s' H Ex G hr => ?_
  refine bC (r1 := [.d (eW W), .d (eStand st), .d (eDs ds), .d (eR r), .d (.list []), .u, .u, .u, .u]) (sSet 4 dLst0 nd) ?_
  have stp : ∀ (i : Nat) (cur : Stand) (found : List Int) (d : Deed), ds[i]? = some d → ((∀ y ∈ cur.things, TOk y) ∧ cur.things.length ≤ 20 + i ∧ found.length = i) → StOk cur ∧ DOk W d ∧ found.length ≤ 16 := fun i cur found d hd hj => by
    have := (List.getElem?_eq_some_iff.mp hd).1
    exact ⟨⟨hj.1, by have := hj.2.1; omega⟩, h d (List.mem_of_getElem? hd), by have := hj.2.2; omega⟩
  have res : led W st ds r = ledGo W r 0 st [] ds := rfl
  rw [res]
  refine bOr (o := ledOut (fun cur found => [.d (eW W), .d (eStand cur), .d (eDs ds), .d (eR r), .d (.list (found.map .int)), .u, .u, .u, .u]) eLed (ledGo W r 0 st [] ds)) (sFor (iTo (iEnT E.b_enumerate (dv 2)) (enD_zip ds)) ?_) ?_ ?_ ?_
  · refine for_led (fun cur found => [.d (eW W), .d (eStand cur), .d (eDs ds), .d (eR r), .d (.list (found.map .int)), .u, .u, .u, .u]) eLed (fun i d => .tuple [.int (i : Nat), eD d]) W r ds (fun i cur found => (∀ y ∈ cur.things, TOk y) ∧ cur.things.length ≤ 20 + i ∧ found.length = i)
      ?_ ?_ ?_ ?_ ds 0 st [] (fun j => by rw [Nat.zero_add]) ⟨hst, hn, rfl⟩
    · intro i cur found d x st' hi hd hj ht hb
      have := behind_ok hj.1 (thing_ok (h d (List.mem_of_getElem? hd))) hb
      exact ⟨this.1, by have := hj.2.1; omega, by rw [List.length_append, hj.2.2]; rfl⟩
    · intro i cur found d hd hj ht
      obtain ⟨g1, g2, g3⟩ := stp i cur found d hd hj
      have hb : behind cur d (told W d r) = none := by rw [ht]; rfl
      refine fS (gTu (gC (gNm 5 nd) (gC (gNm 6 nd) gN))) ?_
      refine bC (r1 := [.d (eW W), .d (eStand cur), .d (eDs ds), .d (eR r), .d (.list (found.map .int)), .d (.int (i : Nat)), .d (eD d), .d (eO .int (told W d r)), .u]) (sSet 7 (dCall (c_number_told E g2 hr0) hr (aC (dv 0) (aC (dv 6) (aC (dv 3) aN)))) nd) ?_
      refine bC (sSet 8 (dTo (dCall (c_behind E g1 (thing_ok g2)) hr (aC (dv 1) (aC (dv 6) (aC (dv 7) aN)))) (y := .none) (by rw [hb]; rfl)) nd) ?_
      exact bIf (tIsN' (dv 8)) (fun _ => brR (b1 (sRet (dTup3 (aC (dv 1) (aC (dv 4) (aC (dv 5) aN))))))) fun h => absurd h (by decide)
    · intro i cur found d x hd hj ht hb0
      obtain ⟨g1, g2, g3⟩ := stp i cur found d hd hj
      have hb : behind cur d (told W d r) = none := by rw [ht]; exact hb0
      refine fS (gTu (gC (gNm 5 nd) (gC (gNm 6 nd) gN))) ?_
      refine bC (r1 := [.d (eW W), .d (eStand cur), .d (eDs ds), .d (eR r), .d (.list (found.map .int)), .d (.int (i : Nat)), .d (eD d), .d (eO .int (told W d r)), .u]) (sSet 7 (dCall (c_number_told E g2 hr0) hr (aC (dv 0) (aC (dv 6) (aC (dv 3) aN)))) nd) ?_
      refine bC (sSet 8 (dTo (dCall (c_behind E g1 (thing_ok g2)) hr (aC (dv 1) (aC (dv 6) (aC (dv 7) aN)))) (y := .none) (by rw [hb]; rfl)) nd) ?_
      exact bIf (tIsN' (dv 8)) (fun _ => brR (b1 (sRet (dTup3 (aC (dv 1) (aC (dv 4) (aC (dv 5) aN))))))) fun h => absurd h (by decide)
    · intro i cur found d x st' hd hj ht hb0
      obtain ⟨g1, g2, g3⟩ := stp i cur found d hd hj
      have hb : behind cur d (told W d r) = some st' := by rw [ht]; exact hb0
      refine fS (gTu (gC (gNm 5 nd) (gC (gNm 6 nd) gN))) ?_
      refine bC (r1 := [.d (eW W), .d (eStand cur), .d (eDs ds), .d (eR r), .d (.list (found.map .int)), .d (.int (i : Nat)), .d (eD d), .d (.int x), .u]) (sSet 7 (dTo (dCall (c_number_told E g2 hr0) hr (aC (dv 0) (aC (dv 6) (aC (dv 3) aN)))) (y := .int x) (by rw [ht]; rfl)) nd) ?_
      refine bC (r1 := [.d (eW W), .d (eStand cur), .d (eDs ds), .d (eR r), .d (.list (found.map .int)), .d (.int (i : Nat)), .d (eD d), .d (.int x), .d (eStand st')]) (sSet 8 (r1 := [.d (eW W), .d (eStand cur), .d (eDs ds), .d (eR r), .d (.list (found.map .int)), .d (.int (i : Nat)), .d (eD d), .d (.int x), .u]) (dTo (dCall (c_behind E (x := some x) g1 (thing_ok g2)) hr (aC (dv 1) (aC (dv 6) (aC (dv 7) aN)))) (y := eStand st') (by rw [hb0]; rfl)) nd) ?_
      refine bIf (tIsN' (x := eStand st') (dv 8)) (fun h => absurd (show false = true from h) (by decide)) fun _ => br0 ?_
      refine bC (sPar 1 4 (aC (dv 8) (aC (dTo (dCatL (by rw [List.length_map, sz]; show found.length + 1 ≤ _; omega) (dv 4) (dLst1 (dv 7))) (map_snoc (e := PyData.int) found x)) aN)) nd) (bW [5, 6, 7, 8])
  · intro r1 e
    cases hq : (ledGo W r 0 st [] ds).2.2 with
    | none =>
      unfold ledOut at e
      rw [hq] at e
      cases e
      refine b1 (sRet' (dTup3 (aC (dv 1) (aC (dv 4) (aC dn aN)))) ?_)
      unfold eLed
      rw [hq]
      rfl
    | some n =>
      unfold ledOut at e
      rw [hq] at e
      cases e
  · intro x b e
    unfold ledOut at e
    split at e
    · cases e
    · cases e
      rfl
  · intro xs e
    unfold ledOut at e
    split at e <;> cases e
theorem sc_costs : Sc ["world", "script", "purse", "rate", "home", "far", "things"] ["world", "script", "purse", "rate"] 73 := ⟨rfl, rfl, rfl, by decide +kernel, rfl, by decide +kernel, by decide +kernel⟩
theorem c_costs (E : En K mg) {W : Wd} {ds : List Deed} {p : Int × Int} {r : Rate} (h : ∀ d ∈ ds, DOk W d) (hl : ds.length ≤ 16) (hr0 : Sm r) : Cal P w K mg base 5 "costs" [eW W, eDs ds, eR p, eR r] (eR (costs W ds p r)) := by
  obtain ⟨f, fd, F, hm⟩ := E.f_costs
  have nd := sc_costs.nd
  refine cal_of (bg := []) F sc_costs hm (fun _ _ _ _ _ _ us hl => match us, hl with | [_, _, _, _], _ => rfl) rfl (by decide) fun f cdv A outer s' H Ex G hr => ?_
  refine bC (sAsg (x := eStand (led W (purse0 p) ds r).1) (dI (xs := [eStand (led W (purse0 p) ds r).1, .list ((led W (purse0 p) ds r).2.1.map .int), eON (led W (purse0 p) ds r).2.2]) (dCall (c_led_by E (st := purse0 p) h hl (fun y hy => by cases hy) (Nat.zero_le _) hr0) hr
    (aC (dv 0) (aC (dCatT (xs := [.int p.1, .int p.2]) (ys := [.tuple []]) (by show 3 ≤ sizeLine; decide) (dv 2) (dTup1 dTup0)) (aC (dv 1) (aC (dv 3) aN))))) di) (gTu (gC (gNm 4 nd) (gC (gNm 5 nd) (gC (gNm 6 nd) gN))))) ?_
  exact b1 (sRet (dTup2 (aC (dSub (dI (dv 2) di) (dv 4)) (aC (dSub (dI (dv 2) di) (dv 5)) aN))))
end Kx
end Sec_P5
section Sec_P6
set_option maxRecDepth 100000
/-! in_order, cells, joined, meet, parted, cheaper_rows, turns. -/
namespace Kx
open PySem PySem.Spec PyProof.Rows L2 DL AM
variable {P : Program} {w : World} {K : PySem.W.Frag} {mg : Str → Option Value} {base : Heap}
/-- a small reduced rate -/
structure Rt (r : Rate) : Prop where
  red : Red r
  P : r.1 ≤ 2002000
  Q : r.2 ≤ 2002000
theorem Rt.sm {r : Rate} (h : Rt r) : Sm r := ⟨h.red.p, h.red.q, by have := h.P; omega, by have := h.Q; omega⟩
theorem rt_low : Rt LOW := ⟨red_low, by decide, by decide⟩
theorem rt_high : Rt HIGH := ⟨red_high, by decide, by decide⟩
theorem rt_lowest {t b : Int} (ht : 0 < t) (hb : 0 < b) (h1 : t ≤ 2002000) (h2 : b ≤ 2002000) : Rt (lowest t b) := ⟨(red_lowest ht hb).1, (sb_lowest ht hb h1 h2).P, (sb_lowest ht hb h1 h2).Q⟩
theorem ruleEdges_rt {u : Ru} {bk : Bool} {n : Int} (hu : RuOk u) (hn : 0 < n) (hn2 : n ≤ 12) {r : Rate} (hr : r ∈ ruleEdges u bk n) : Rt r := by
  have sb := ruleEdges_sb hu hn hn2 hr
  refine ⟨?_, sb.P, sb.Q⟩
  have hr := (List.mem_filter.mp hr).1
  obtain ⟨e, he, rfl⟩ := List.mem_map.mp hr
  obtain ⟨he, h0⟩ := List.mem_filter.mp he
  obtain ⟨s0, s1, c0, c1, k0, k1⟩ := hu
  have h1 : 0 < n * (100 - u.k) := Int.mul_pos hn (by omega)
  have h2 := mem_edges s0 s1 (show 0 ≤ 4 * n + u.s by omega) (by omega) he
  have h3 : 0 < e.1 := of_decide_eq_true h0
  unfold turned
  split
  · exact (red_lowest (by omega) (Int.mul_pos h2.1 h1)).1
  · exact (red_lowest (Int.mul_pos h1 h2.1) (by omega)).1
theorem deedEdges_rt {W : Wd} {d : Deed} (hd : DOk W d) {r : Rate} (hr : r ∈ deedEdges W d) : Rt r := by
  cases d with
  | ex bk i n =>
    obtain ⟨_, h3, h4, h5⟩ := hd
    exact ruleEdges_rt h3 (by omega) h5 hr
  | over i p m =>
    obtain ⟨h1, h2, h3, h4⟩ := hd
    rcases List.mem_append.mp (show r ∈ ruleEdges _ _ _ ++ _ from hr) with hr | hr
    · exact ruleEdges_rt (ru_ok h2.a) (by have := h3.lo; omega) h3.hi hr
    · obtain ⟨x, hx, hr⟩ := List.mem_flatMap.mp hr
      have := mem_upTo.mp hx
      have := h4.hi
      exact ruleEdges_rt (ru_ok h2.b) (by omega) (by omega) hr
  | buy i p home =>
    obtain ⟨h1, h2, h3⟩ := hd
    exact ruleEdges_rt (ru_ok h2.a) (by have := h3.lo; omega) h3.hi hr
  | ret i p home =>
    obtain ⟨h1, h2, h3, _⟩ := hd
    exact ruleEdges_rt (ru_ok h2.a) (by have := h3.lo; omega) h3.hi hr
theorem scriptEdges_rt {W : Wd} {ds : List Deed} (h : ∀ d ∈ ds, DOk W d) {r : Rate} (hr : r ∈ scriptEdges W ds) : Rt r := by
  obtain ⟨d, hd, hr⟩ := List.mem_flatMap.mp hr
  exact deedEdges_rt (h d hd) hr
theorem comp_fn {α : Type} {S : Rho → PyData → Option PyData → Rho → Prop} {ρ : Rho} (encA g : α → PyData) : ∀ (es : List α), (∀ x ∈ es, S ρ (encA x) (some (g x)) ρ) → CompR S ρ (es.map encA) (es.map g) ρ
  | [], _ => .nil
  | x :: es, h => .take (h x List.mem_cons_self) (comp_fn encA g es fun y hy => h y (List.mem_cons_of_mem _ hy))
/-! ### in_order -/
def k3 (F : Int) (n : Rate) : SN.K3 := (n.1 * F / n.2, n.1, n.2)
theorem ordered {F : Int} (hF : 2002000 * 2002000 ≤ F) {l : List Rate} (h : ∀ r ∈ l, Rt r) (out : List SN.K3) (nd : out.Nodup) (hm : ∀ k, k ∈ out ↔ k ∈ l.map (k3 F)) (hp : out.Pairwise SN.le3) : out = (sortR l).map (k3 F) := by
  have of : ∀ k ∈ out, ∃ r, Rt r ∧ k = k3 F r ∧ k.2 = r ∧ r ∈ l := fun k hk => by
    obtain ⟨r, hr, e⟩ := List.mem_map.mp ((hm k).mp hk)
    exact ⟨r, h r hr, e.symm, by rw [← e]; rfl, hr⟩
  have so := sortR_ok (l := l) fun z hz => (h z hz).red
  have asc : Asc (out.map (·.2)) := by
    refine List.pairwise_map.mpr ?_
    have both := List.Pairwise.and hp nd
    refine List.Pairwise.imp_of_mem (fun {a b} ha hb hab => ?_) both
    obtain ⟨h1, h2⟩ := hab
    obtain ⟨ra, ta, ea, ea2, _⟩ := of a ha
    obtain ⟨rb, tb, eb, eb2, _⟩ := of b hb
    show val a.2 < val b.2
    rw [ea2, eb2]
    have bd : rb.2 * ra.2 ≤ F := Int.le_trans (Int.mul_le_mul tb.Q ta.Q (Int.le_of_lt ta.red.q) (by decide)) hF
    have n1 : ¬ val rb < val ra := fun z => by
      have := place_lt tb.red.q ta.red.q bd z
      unfold SN.le3 at h1
      rw [ea, eb] at h1
      unfold k3 at h1
      dsimp only at h1
      omega
    have n2 : val ra ≠ val rb := fun z => h2 (by rw [ea, eb, red_eq ta.red tb.red z])
    grind
  have e1 : out.map (·.2) = sortR l := asc_unique asc so.1 fun y => by
    rw [so.2]
    constructor
    · intro hy
      obtain ⟨k, hk, e⟩ := List.mem_map.mp hy
      obtain ⟨r, _, _, e2, hr⟩ := of k hk
      rw [← e, e2]
      exact hr
    · intro hy
      exact List.mem_map.mpr ⟨k3 F y, (hm _).mpr (List.mem_map.mpr ⟨y, hy, rfl⟩), rfl⟩
  rw [← e1, List.map_map]
  refine (List.map_id' out).symm.trans (List.map_congr_left fun k hk => ?_)
  obtain ⟨r, _, e, e2, _⟩ := of k hk
  show k = k3 F k.2
  rw [e2]
  exact e
theorem asc_nd {l : List Rate} (h : Asc l) : l.Nodup := h.imp fun {a b} h e => by rw [e] at h; grind
theorem sortR_len {l S : List Rate} (h : ∀ r ∈ l, Rt r) (hS : ∀ r ∈ l, r ∈ S) : (sortR l).length ≤ S.length :=
  have so := sortR_ok (l := l) fun z hz => (h z hz).red
  SN.nd_len (sortR l) S (asc_nd so.1) fun r hr => hS r ((so.2 r).mp hr)
/-- few of them -/
def FewR (l : List Rate) : Prop := ∃ S : List Rate, S.length < 4095 ∧ ∀ r ∈ l, r ∈ S
theorem sc_in_order : Sc ["some", "rows", "number", "place"] ["some"] 11 := ⟨rfl, rfl, rfl, by decide +kernel, rfl, by decide +kernel, by decide +kernel⟩
theorem c_in_order (E : En K mg) {l : List Rate} (h : ∀ r ∈ l, Rt r) (hl : l.length ≤ 1000000) (hS : FewR l) : Cal P w K mg base 2 "in_order" [.list (l.map eR)] (.list ((sortR l).map eR)) := by
  obtain ⟨f, fd, F, hm⟩ := E.f_in_order
  have nd := sc_in_order.nd
  have sz := sizeLine_eq
  obtain ⟨S, hS1, hS2⟩ := hS
  refine cal_of (bg := []) F sc_in_order hm (fun _ _ _ _ _ _ us hl => match us, hl with | [_], _ => rfl) rfl (by decide) fun f cdv A outer s' H Ex G hr => ?_
  have e3 : ∀ n : Rate, SN.enc3 (k3 1000000000000000 n) = .tuple [.int (n.1 * 1000000000000000 / n.2), eR n] := fun n => rfl
  refine bC (r1 := [.d (.list (l.map eR)), .d (.list (((sortR l).map (k3 1000000000000000)).map SN.enc3)), .u, .u]) (sSet 1 (r1 := [.d (.list (l.map eR)), .u, .u, .u]) (SN.dSortSet (ks := l.map (k3 1000000000000000)) (C := S.map (k3 1000000000000000)) E.b_sorted E.b_set hr.units ?_ (by rw [List.length_map]; exact hS1)
    (fun k hk => by
      obtain ⟨r, hr, e⟩ := List.mem_map.mp hk
      exact List.mem_map.mpr ⟨r, hS2 r hr, e⟩) (ordered (by decide) h)) nd) ?_
  · rw [List.map_map]
    exact dLc (own := [("number", 2)]) (iL (dv 0)) (noM rfl) (comp_fn eR _ _ fun n hn => cTake (fun _ _ _ _ _ _ => gNm 2 nd) (by decide)
      (fun _ _ _ _ _ _ => dTup2 (aC (dCall (c_place E (h n hn).sm) hr (aC (dv 2) aN)) (aC (dv 2) aN)))) (by rw [List.length_map]; omega) nd (by rfl)
  · refine b1 (sRet (r1 := [.d (.list (l.map eR)), .d (.list (((sortR l).map (k3 1000000000000000)).map SN.enc3)), .u, .u]) ?_)
    exact dLc (own := [("number", 2), ("place", 3)]) (iTo (iL (dv 1)) (ys := (sortR l).map fun n => SN.enc3 (k3 1000000000000000 n)) (by rw [List.map_map]; rfl)) (noM rfl) (comp_fn _ eR _ fun n hn => cTake (fun _ _ _ _ _ _ => gTu (gC (gNm 3 nd) (gC (gNm 2 nd) gN))) (by decide)
      (fun _ _ _ _ _ _ => dv 2)) (by rw [List.length_map]; have := sortR_len h hS2; omega) nd (by rfl)
/-! ### cells -/
theorem pairs_flat (mid : Rate → Rate → Rate) : ∀ l : List Rate, AM.pairsOf mid l = (l.zip l.tail).flatMap fun q => [((q.1, false, q.2, false), mid q.1 q.2), ((q.2, true, q.2, true), q.2)]
  | [] => rfl
  | [_] => rfl
  | a :: b :: l => by
    rw [AM.pairsOf, pairs_flat mid (b :: l)]
    rfl
def encP (q : Rate × Rate) : PyData := .tuple [eR q.1, eR q.2]
theorem zp_enc (l m : List Rate) : zpD (l.map eR) (m.map eR) = (l.zip m).map encP := by
  unfold zpD
  rw [List.zip_map, List.map_map]
  rfl
theorem flat_len2 {α β : Type} (f : α → List β) (h : ∀ x, (f x).length = 2) : ∀ l : List α, (l.flatMap f).length = 2 * l.length
  | [] => rfl
  | x :: l => by
    rw [List.flatMap_cons, List.length_append, flat_len2 f h l, h, List.length_cons]
    omega
theorem sc_cells_of : Sc ["some", "rates", "found", "one", "other"] ["some"] 70 := ⟨rfl, rfl, rfl, by decide +kernel, rfl, by decide +kernel, by decide +kernel⟩
theorem c_cells_of (E : En K mg) {l : List Rate} (h : ∀ r ∈ l, Rt r) (hl : l.length ≤ 900000) (hS : FewR (LOW :: HIGH :: l)) : Cal P w K mg base 3 "cells_of" [.list (l.map eR)] (.list ((cellsOf middle l).map (eRow eR))) := by
  obtain ⟨f, fd, F, hm⟩ := E.f_cells_of
  have nd := sc_cells_of.nd
  have sz := sizeLine_eq
  have h' : ∀ r ∈ LOW :: HIGH :: l, Rt r := fun r hr => by
    rcases List.mem_cons.mp hr with e | hr
    · rw [e]; exact rt_low
    · rcases List.mem_cons.mp hr with e | hr
      · rw [e]; exact rt_high
      · exact h r hr
  refine cal_of (bg := []) F sc_cells_of hm (fun _ _ _ _ _ _ us hl => match us, hl with | [_], _ => rfl) rfl (by decide) fun f cdv A outer s' H Ex G hr => ?_
  have srt : ∀ r ∈ sortR (LOW :: HIGH :: l), Rt r := fun r hr => h' r (((sortR_ok fun z hz => (h' z hz).red).2 r).mp hr)
  have slen : (sortR (LOW :: HIGH :: l)).length < 4095 := by
    obtain ⟨S, h1, h2⟩ := hS
    have := sortR_len h' h2
    omega
  refine bC (r1 := [.d (.list (l.map eR)), .d (.list ((sortR (LOW :: HIGH :: l)).map eR)), .u, .u, .u]) (sSet 1 (dCall (c_in_order E h' (by simp; omega) hS) hr (aC (dTo (dCatL (xs := [eR LOW, eR HIGH]) (ys := l.map eR) (by rw [List.length_map]; simp; omega) (dLst (by show 2 ≤ sizeLine; decide) (aC (dg E.t_LOW) (aC (dg E.t_HIGH) aN))) (dv 0)) rfl) aN)) nd) ?_
  refine bC (r1 := [.d (.list (l.map eR)), .d (.list ((sortR (LOW :: HIGH :: l)).map eR)), .d (.list ([((LOW, true, LOW, true), LOW)].map (eRow eR))), .u, .u]) (sSet 2 (dLst1 (dTup2 (aC (dTup4 (aC (dg E.t_LOW) (aC db (aC (dg E.t_LOW) (aC db aN))))) (aC (dg E.t_LOW) aN)))) nd) ?_
  unfold cellsOf
  generalize sortR (LOW :: HIGH :: l) = rates at srt slen
  refine bC (r1 := [.d (.list (l.map eR)), .d (.list (rates.map eR)), .d (.list ((((LOW, true, LOW, true), LOW) :: AM.pairsOf middle rates).map (eRow eR))), .u, .u])
    (sFor (iTo (iZ E.b_zip (ys := rates.tail.map eR) (aC (dv 1) (aC (dTo (dSlL (dv 1) (oS di) oN) ?_) aN))) (zp_enc rates rates.tail)) ?_) (b1 (sRet (dv 2)))
  · congr 1
    have e := cut_drop (rates.map eR) 1
    cases rates with
    | nil => rfl
    | cons a t => exact e (by simp)
  · rw [pairs_flat]
    have hz : (rates.zip rates.tail).length ≤ 4095 := by
      rw [List.length_zip]; omega
    refine for_acc encP (fun acc => [.d (.list (l.map eR)), .d (.list (rates.map eR)), .d (.list (acc.map (eRow eR))), .u, .u]) _ 100000 _ [((LOW, true, LOW, true), LOW)] (by rw [flat_len2 _ fun _ => rfl]; simp only [List.length_singleton]; omega) fun q hq acc hacc => ?_
    have q1 := srt q.1 (List.of_mem_zip hq).1
    have q2 := srt q.2 (List.mem_of_mem_tail (List.of_mem_zip hq).2)
    refine fS (gTu (gC (gNm 3 nd) (gC (gNm 4 nd) gN))) (bC (sSet 2 (dTo (dCatL ?_ (dv 2) (dLst (by show 2 ≤ sizeLine; decide) (aC (dTup2 (aC (dTup4 (aC (dv 3) (aC db (aC (dv 4) (aC db aN))))) (aC (dCall (c_middle E q1.sm q2.sm) hr (aC (dv 3) (aC (dv 4) aN))) aN)))
      (aC (dTup2 (aC (dTup4 (aC (dv 4) (aC db (aC (dv 4) (aC db aN))))) (aC (dv 4) aN))) aN)))) (map_app (e := eRow eR) acc [((q.1, false, q.2, false), middle q.1 q.2), ((q.2, true, q.2, true), q.2)])) nd) (bW [3, 4]))
    rw [List.length_map]
    show acc.length + 2 ≤ _
    omega
/-! ### meet -/
theorem bIf2 {X : Cx} {G : Fr0} {r r1 r2 : Rho} {c : Expr} {A B rest : List Stmt} {pos : PySem.Pos} {k : Bool} {o : Out} (hc : DT X G r c k r1) (hA : k = true → DB X G r1 A (.nx r2)) (hB : k = false → DB X G r1 B (.nx r2)) (h : DB X G r2 rest o) : DB X G r (.If c A B pos :: rest) o :=
  bIf hc (fun e => brN (hA e) h) fun e => brN (hB e) h
structure SpOk (s : Span) : Prop where
  a : Rt s.1
  b : Rt s.2.2.1
theorem sc_meet : Sc ["one", "other", "low", "with_low", "high", "with_high"] ["one", "other"] 72 := ⟨rfl, rfl, rfl, by decide +kernel, rfl, by decide +kernel, by decide +kernel⟩
theorem c_meet (E : En K mg) {a b : Span} (ha : SpOk a) (hb : SpOk b) : Cal P w K mg base 2 "meet" [eSpan a, eSpan b] (eO eSpan (meet a b)) := by
  obtain ⟨f, fd, F, hm⟩ := E.f_meet
  have nd := sc_meet.nd
  refine cal_of (bg := []) F sc_meet hm (fun _ _ _ _ _ _ us hl => match us, hl with | [_, _], _ => rfl) rfl (by decide) fun f cdv A outer s' H Ex G hr => ?_
  refine bC (r1 := [.d (eSpan a), .d (eSpan b), .d (eR a.1), .d (.bool a.2.1), .d (eR a.2.2.1), .d (.bool a.2.2.2)]) (sAsg (dv 0) (gTu (gC (gNm 2 nd) (gC (gNm 3 nd) (gC (gNm 4 nd) (gC (gNm 5 nd) gN)))))) ?_
  -- the low end
  let lo : Rate × Bool := if isLess a.1 b.1 = true ∨ (a.1 = b.1 ∧ b.2.1 = false) then (b.1, b.2.1) else (a.1, a.2.1)
  have hlo : lo = if isLess a.1 b.1 = true ∨ (a.1 = b.1 ∧ b.2.1 = false) then (b.1, b.2.1) else (a.1, a.2.1) := rfl
  let hi : Rate × Bool := if isLess b.2.2.1 a.2.2.1 = true ∨ (a.2.2.1 = b.2.2.1 ∧ b.2.2.2 = false) then (b.2.2.1, b.2.2.2) else (a.2.2.1, a.2.2.2)
  have hhi : hi = if isLess b.2.2.1 a.2.2.1 = true ∨ (a.2.2.1 = b.2.2.1 ∧ b.2.2.2 = false) then (b.2.2.1, b.2.2.2) else (a.2.2.1, a.2.2.2) := rfl
  have hres : meet a b = if isLess hi.1 lo.1 = true ∨ (lo.1 = hi.1 ∧ ¬ (lo.2 = true ∧ hi.2 = true)) then none else some (lo.1, lo.2, hi.1, hi.2) := rfl
  clear_value lo hi
  have rlo : Rt lo.1 := by rw [hlo]; split; exact hb.a; exact ha.a
  have rhi : Rt hi.1 := by rw [hhi]; split; exact hb.b; exact ha.b
  refine bIf2 (r2 := [.d (eSpan a), .d (eSpan b), .d (eR lo.1), .d (.bool lo.2), .d (eR a.2.2.1), .d (.bool a.2.2.2)]) (k := isLess a.1 b.1 || (decide (a.1 = b.1) && !b.2.1))
    (tW (wOr (tV (dCall (c_is_less E ha.a.sm hb.a.sm) (hr.mono (by decide)) (aC (dv 2) (aC (dI (dv 1) di) aN)))) fun _ => wOr1 (tW (wAnd (tEq hr.units (sh_R _) (sh_R _) (eqv_R _ _) (dv 2) (dr (dI (dv 1) di))) fun _ => wAnd1 (tNot' (tV (dI (dv 1) di))))))) (fun h => ?_) (fun h => ?_) ?_
  · have e : lo = (b.1, b.2.1) := by
      rw [hlo, if_pos]
      simpa [Bool.or_eq_true, Bool.and_eq_true] using h
    rw [e]
    exact b1 (sAsg (dTo (dSlT (dv 1) oN (oS di)) (y := .tuple [eR b.1, .bool b.2.1]) rfl) (gTu (gC (gNm 2 nd) (gC (gNm 3 nd) gN))))
  · have e : lo = (a.1, a.2.1) := by
      rw [hlo, if_neg]
      simpa [Bool.or_eq_false_iff, Bool.and_eq_false_iff] using h
    rw [e]
    exact bN
  refine bIf2 (r2 := [.d (eSpan a), .d (eSpan b), .d (eR lo.1), .d (.bool lo.2), .d (eR hi.1), .d (.bool hi.2)]) (k := isLess b.2.2.1 a.2.2.1 || (decide (a.2.2.1 = b.2.2.1) && !b.2.2.2))
    (tW (wOr (tV (dCall (c_is_less E hb.b.sm ha.b.sm) (hr.mono (by decide)) (aC (dI (dv 1) di) (aC (dv 4) aN)))) fun _ => wOr1 (tW (wAnd (tEq hr.units (sh_R _) (sh_R _) (eqv_R _ _) (dv 4) (dr (dI (dv 1) di))) fun _ => wAnd1 (tNot' (tV (dI (dv 1) di))))))) (fun h => ?_) (fun h => ?_) ?_
  · have e : hi = (b.2.2.1, b.2.2.2) := by
      rw [hhi, if_pos]
      simpa [Bool.or_eq_true, Bool.and_eq_true] using h
    rw [e]
    exact b1 (sAsg (dTo (dSlT (dv 1) (oS di) oN) (y := .tuple [eR b.2.2.1, .bool b.2.2.2]) rfl) (gTu (gC (gNm 4 nd) (gC (gNm 5 nd) gN))))
  · have e : hi = (a.2.2.1, a.2.2.2) := by
      rw [hhi, if_neg]
      simpa [Bool.or_eq_false_iff, Bool.and_eq_false_iff] using h
    rw [e]
    exact bN
  refine bIf (k := isLess hi.1 lo.1 || (decide (lo.1 = hi.1) && !(lo.2 && hi.2))) (tW (wOr (tV (dCall (c_is_less E rhi.sm rlo.sm) (hr.mono (by decide)) (aC (dv 4) (aC (dv 2) aN)))) fun _ => wOr1 (tW (wAnd (tEq hr.units (sh_R _) (sh_R _) (eqv_R _ _) (dv 2) (dr (dv 4))) fun _ => wAnd1 (tNot' (tW (wAnd (tV (dv 3)) fun _ => wAnd1 (tV (dv 5)))))))))
    (fun h => brR (b1 (sRet' dn ?_))) fun h => br0 (b1 (sRet' (dTup4 (aC (dv 2) (aC (dv 3) (aC (dv 4) (aC (dv 5) aN))))) ?_))
  · rw [hres, if_pos]
    · rfl
    · simp only [Bool.or_eq_true, Bool.and_eq_true, decide_eq_true_eq, Bool.not_eq_true'] at h
      rcases h with h | ⟨h1, h2⟩
      · exact .inl h
      · exact .inr ⟨h1, fun z => by rw [z.1, z.2] at h2; cases h2⟩
  · rw [hres, if_neg]
    · rfl
    · simp only [Bool.or_eq_false_iff, Bool.and_eq_false_iff, decide_eq_false_iff_not, Bool.not_eq_false', Bool.and_eq_true] at h
      rintro (z | ⟨z1, z2⟩)
      · rw [h.1] at z; cases z
      · rcases h.2 with h2 | h2
        · exact h2 z1
        · exact z2 h2
end Kx
end Sec_P6
section Sec_P7
set_option maxRecDepth 100000
/-! joined, left_rows, parted, cheaper_rows, turns. -/
namespace Kx
open PySem PySem.Spec PyProof.Rows L2 DL AM
variable {P : Program} {w : World} {K : PySem.W.Frag} {mg : Str → Option Value} {base : Heap}
section
variable {α : Type} [DecidableEq α]
/-- the loop's end: what is found, the last row -/
def joinF : List (Span × α) → Span × α → List (Span × α) × (Span × α)
  | [], last => ([], last)
  | (s, x) :: l, last => if last.2 = x ∧ touch last.1 s = true then joinF l ((last.1.1, last.1.2.1, s.2.2.1, s.2.2.2), x) else (last :: (joinF l (s, x)).1, (joinF l (s, x)).2)
theorem joinF_go : ∀ (l : List (Span × α)) (last : Span × α), joinGo l last = (joinF l last).1 ++ [(joinF l last).2]
  | [], last => rfl
  | (s, x) :: l, last => by
    unfold joinGo joinF
    split
    · exact joinF_go l _
    · rw [joinF_go l (s, x)]
      rfl
theorem joinF_len : ∀ (l : List (Span × α)) (last : Span × α), (joinF l last).1.length ≤ l.length
  | [], last => Nat.le_refl _
  | (s, x) :: l, last => by
    unfold joinF
    split
    · exact Nat.le_succ_of_le (joinF_len l _)
    · have := joinF_len l (s, x)
      simp
      omega
theorem joined_len (l : List (Span × α)) : (joined l).length ≤ l.length := by
  cases l with
  | nil => exact Nat.le_refl _
  | cons row l =>
    show (joinGo l row).length ≤ _
    rw [joinF_go, List.length_append, List.length_cons]
    have := joinF_len l row
    simp
    omega
/-- the loop of joined -/
theorem for_join {S : Rho → PyData → Out → Prop} (ρ : List (Span × α) → Span × α → Rho) (enc : Span × α → PyData) (h : ∀ (found : List (Span × α)) (last : Span × α) (s : Span) (x : α), found.length ≤ 1000000 →
      S (ρ found last) (enc (s, x)) (.nx (if last.2 = x ∧ touch last.1 s = true then ρ found ((last.1.1, last.1.2.1, s.2.2.1, s.2.2.2), x) else ρ (found ++ [last]) (s, x)))) :
    ∀ (l : List (Span × α)) (found : List (Span × α)) (last : Span × α), found.length + l.length ≤ 1000000 → ForR S (ρ found last) (l.map enc) (.nx (ρ (found ++ (joinF l last).1) (joinF l last).2))
  | [], found, last, _ => by
    show ForR S _ [] (.nx (ρ (found ++ []) last))
    rw [List.append_nil]
    exact .nil
  | (s, x) :: l, found, last, hl => by
    rw [List.length_cons] at hl
    have h1 := h found last s x (by omega)
    rw [List.map_cons]
    unfold joinF
    split
    · rename_i c
      rw [if_pos c] at h1
      exact .step h1 (for_join ρ enc h l found _ (by omega))
    · rename_i c
      rw [if_neg c] at h1
      refine .step h1 ?_
      have := for_join ρ enc h l (found ++ [last]) (s, x) (by rw [List.length_append, List.length_singleton]; omega)
      rw [List.append_assoc] at this
      exact this
theorem sc_joined : Sc ["rows", "found", "last", "span", "thing"] ["rows"] 71 := ⟨rfl, rfl, rfl, by decide +kernel, rfl, by decide +kernel, by decide +kernel⟩
theorem c_joined (E : En K mg) (e : α → PyData) (he : ∀ x y, PyData.eqv (e x) (e y) = decide (x = y)) (sh : ∀ x, SeqAt.shaped (e x) = true) {rows : List (Span × α)} (hl : rows.length ≤ 500000) :
    Cal P w K mg base 1 "joined" [.list (rows.map (eRow e))] (.list ((joined rows).map (eRow e))) := by
  obtain ⟨f, fd, F, hm⟩ := E.f_joined
  have nd := sc_joined.nd
  have sz := sizeLine_eq
  refine cal_of (bg := []) F sc_joined hm (fun _ _ _ _ _ _ us hl => match us, hl with | [_], _ => rfl) rfl (by decide) fun f cdv A outer s' H Ex G hr => ?_
  refine bC (r1 := [.d (.list (rows.map (eRow e))), .d (.list []), .d .none, .u, .u]) (sPar 1 2 (aC dLst0 (aC dn aN)) nd) ?_
  cases rows with
  | nil =>
    refine bC (r1 := [.d (.list []), .d (.list []), .d .none, .u, .u]) (sFor (iL (dv 0)) .nil) (b1 (sRet (dCatL (xs := []) (ys := []) (by decide) (dv 1) (dIf' (tIsN' (dv 2)) (fun _ => dLst0) (fun h => absurd h (by decide))))))
  | cons row rest =>
    refine bC (r1 := [.d (.list ((row :: rest).map (eRow e))), .d (.list ((joinF rest row).1.map (eRow e))), .d (eRow e (joinF rest row).2), .u, .u]) (sFor (iL (dv 0)) (.step (r1 := [.d (.list ((row :: rest).map (eRow e))), .d (.list []), .d (eRow e row), .u, .u]) ?_ ?_)) ?_
    · refine fS (gTu (gC (gNm 3 nd) (gC (gNm 4 nd) gN))) ?_
      exact bIf (tW (wOr (tIsN' (dv 2)) (fun h => absurd h (by decide)) (l := false))) (fun _ => brN (bC (sSet 1 (x := .list []) (dCatL (xs := []) (ys := []) (by decide) (dv 1) (dIf' (tIsN' (dv 2)) (fun _ => dLst0) (fun h => absurd h (by decide)))) nd) (b1 (sSet 2 (dTup2 (aC (dv 3) (aC (dv 4) aN))) nd))) (bW [3, 4])) (fun h => absurd h (by decide))
    · have key := for_join (S := ?_) (fun found last => [.d (.list ((row :: rest).map (eRow e))), .d (.list (found.map (eRow e))), .d (eRow e last), .u, .u]) (eRow e) ?_ rest [] row (by simp at hl ⊢; omega)
      · exact key
      · intro found last s x hf
        refine fS (gTu (gC (gNm 3 nd) (gC (gNm 4 nd) gN))) ?_
        have hK : (!decide (last.2 = x) || (!decide (last.1.2.2.1 = s.1) || !(last.1.2.2.2 || s.2.1))) = false ↔ last.2 = x ∧ touch last.1 s = true := by
          unfold touch
          simp only [Bool.or_eq_false_iff, Bool.not_eq_false', decide_eq_true_eq, Bool.and_eq_true]
        by_cases c : last.2 = x ∧ touch last.1 s = true
        · rw [if_pos c]
          refine bIf (k := !decide (last.2 = x) || (!decide (last.1.2.2.1 = s.1) || !(last.1.2.2.2 || s.2.1))) (tTo (tW (wOr (tIsN' (x := eRow e last) (dv 2)) fun _ => wOr (tNe hr.units (sh _) (sh _) (by rw [he]) (dI (dv 2) di) (dr (dv 4))) fun _ => wOr (tNe hr.units (sh_R _) (sh_R _) (by rw [eqv_R]) (dI (dI (dv 2) di) di) (dr (dI (dv 3) di))) fun _ =>
            wOr1 (tNot' (tW (wOr (tV (dI (dI (dv 2) di) di)) fun _ => wOr1 (tV (dI (dv 3) di))))))) rfl) (fun h => ?_) (fun h => ?_)
          · rw [hK.mpr c] at h
            cases h
          · exact brN (b1 (sSet 2 (dTup2 (aC (x := eSpan (last.1.1, last.1.2.1, s.2.2.1, s.2.2.2)) (dTo (dCatT (xs := [eR last.1.1, .bool last.1.2.1]) (ys := [eR s.2.2.1, .bool s.2.2.2]) (by show 4 ≤ sizeLine; decide) (dTo (dSlT (xs := [eR last.1.1, .bool last.1.2.1, eR last.1.2.2.1, .bool last.1.2.2.2]) (dI (dv 2) di) oN (oS di)) rfl) (dTo (dSlT (dv 3) (oS di) oN) rfl)) rfl) (aC (dTo (dv 4) (congrArg e c.1.symm)) aN))) nd)) (bTo (bW [3, 4]) (by rw [c.1]; rfl))
        · rw [if_neg c]
          refine bIf (k := !decide (last.2 = x) || (!decide (last.1.2.2.1 = s.1) || !(last.1.2.2.2 || s.2.1))) (tTo (tW (wOr (tIsN' (x := eRow e last) (dv 2)) fun _ => wOr (tNe hr.units (sh _) (sh _) (by rw [he]) (dI (dv 2) di) (dr (dv 4))) fun _ => wOr (tNe hr.units (sh_R _) (sh_R _) (by rw [eqv_R]) (dI (dI (dv 2) di) di) (dr (dI (dv 3) di))) fun _ =>
            wOr1 (tNot' (tW (wOr (tV (dI (dI (dv 2) di) di)) fun _ => wOr1 (tV (dI (dv 3) di))))))) rfl) (fun h => ?_) (fun h => absurd (hK.mp h) c)
          exact brN (bC (sSet 1 (dTo (dCatL (xs := found.map (eRow e)) (ys := [eRow e last]) (by rw [List.length_map]; simp; omega) (dv 1) (dIf' (tIsN' (x := eRow e last) (dv 2)) (fun h => absurd (show false = true from h) (by decide)) (fun _ => dLst1 (dv 2)))) (map_snoc (e := eRow e) found last)) nd) (b1 (sSet 2 (dTup2 (aC (dv 3) (aC (dv 4) aN))) nd))) (bW [3, 4])
    · refine b1 (sRet' (dCatL (xs := (joinF rest row).1.map (eRow e)) (ys := [eRow e (joinF rest row).2]) (by have := joinF_len rest row; rw [List.length_map]; simp at hl ⊢; omega) (dv 1) (dIf' (tIsN' (x := eRow e (joinF rest row).2) (dv 2)) (fun h => absurd (show false = true from h) (by decide)) (fun _ => dLst1 (dv 2)))) ?_)
      show _ = PyData.list ((joinGo rest row).map (eRow e))
      rw [joinF_go]
      exact map_snoc (e := eRow e) _ _
end
end Kx
end Sec_P7
section Sec_P8
set_option maxRecDepth 100000
/-! left_rows, parted, cheaper_rows, turns. -/
namespace Kx
open PySem PySem.Spec PyProof.Rows L2 DL AM
variable {P : Program} {w : World} {K : PySem.W.Frag} {mg : Str → Option Value} {base : Heap}
theorem ru_b {u : Ru} (h : RuOk u) : RuB u := ⟨h.s0, h.s1, h.c0, h.k0, h.k1⟩
theorem dok_db {W : Wd} {d : Deed} (h : DOk W d) : AM.DB W d := by
  cases d with
  | ex bk i n =>
    obtain ⟨_, h2, h3⟩ := h
    exact ⟨ru_b h2, h3.lo, h3.hi⟩
  | over i p m =>
    obtain ⟨_, h2, h3, h4⟩ := h
    exact ⟨⟨h2.a.s0, h2.a.s1⟩, ⟨h2.b.s0, h2.b.s1⟩, ⟨h3.lo, h3.hi⟩, h4.lo, h4.hi⟩
  | buy i p home =>
    obtain ⟨_, h2, h3⟩ := h
    exact ⟨⟨h2.a.s0, h2.a.s1⟩, h3.lo, h3.hi⟩
  | ret i p home =>
    obtain ⟨_, h2, h3, _⟩ := h
    exact ⟨⟨h2.a.s0, h2.a.s1⟩, h3.lo, h3.hi⟩
/-! ### the cells' rates -/
theorem within_rng {l : List Rate} (h : ∀ r ∈ l, Rt r) {r : Rate} (hr : r ∈ within l) : Rt r ∧ Rng r := by
  obtain ⟨h1, h2⟩ := List.mem_filter.mp hr
  have rt := h r h1
  rw [Bool.and_eq_true] at h2
  have n1 : isLess r LOW = false := by simpa using h2.1
  have n2 : isLess HIGH r = false := by simpa using h2.2
  have m1 : ¬ r.1 * 4 < 1 * r.2 := of_decide_eq_false n1
  have m2 : ¬ 4 * r.2 < r.1 * 1 := of_decide_eq_false n2
  exact ⟨rt, rt.red.p, rt.red.q, by omega, by omega⟩
theorem ruleEdges_rng {u : Ru} {bk : Bool} {n : Int} (hu : RuOk u) (hn : 0 < n) (hn2 : n ≤ 12) {r : Rate} (hr : r ∈ ruleEdges u bk n) : Rng r := by
  have rt := ruleEdges_rt hu hn hn2 hr
  have h2 := (List.mem_filter.mp hr).2
  rw [Bool.and_eq_true] at h2
  have n1 : isLess r LOW = false := by simpa using h2.1
  have n2 : isLess HIGH r = false := by simpa using h2.2
  have m1 : ¬ r.1 * 4 < 1 * r.2 := of_decide_eq_false n1
  have m2 : ¬ 4 * r.2 < r.1 * 1 := of_decide_eq_false n2
  exact ⟨rt.red.p, rt.red.q, by omega, by omega⟩
theorem scriptEdges_rng {W : Wd} {ds : List Deed} (h : ∀ d ∈ ds, DOk W d) {r : Rate} (hr : r ∈ scriptEdges W ds) : Rng r := by
  obtain ⟨d, hd, hr⟩ := List.mem_flatMap.mp hr
  have hd := h d hd
  cases d with
  | ex bk i n =>
    obtain ⟨_, h3, h4, h5⟩ := hd
    exact ruleEdges_rng h3 (by omega) h5 hr
  | over i p m =>
    obtain ⟨h1, h2, h3, h4⟩ := hd
    rcases List.mem_append.mp (show r ∈ ruleEdges _ _ _ ++ _ from hr) with hr | hr
    · exact ruleEdges_rng (ru_ok h2.a) (by have := h3.lo; omega) h3.hi hr
    · obtain ⟨x, hx, hr⟩ := List.mem_flatMap.mp hr
      have := mem_upTo.mp hx
      have := h4.hi
      exact ruleEdges_rng (ru_ok h2.b) (by omega) (by omega) hr
  | buy i p home =>
    obtain ⟨h1, h2, h3⟩ := hd
    exact ruleEdges_rng (ru_ok h2.a) (by have := h3.lo; omega) h3.hi hr
  | ret i p home =>
    obtain ⟨h1, h2, h3, _⟩ := hd
    exact ruleEdges_rng (ru_ok h2.a) (by have := h3.lo; omega) h3.hi hr
theorem rng_low : Rng LOW := ⟨by decide, by decide, by decide, by decide⟩
theorem rng_high : Rng HIGH := ⟨by decide, by decide, by decide, by decide⟩
theorem rng_lowest {t b : Int} (ht : 0 < t) (hb : 0 < b) (h1 : b ≤ 4 * t) (h2 : t ≤ 4 * b) : Rng (lowest t b) := by
  have hg := gcd_pos (t := t) hb
  have d1 : gcdI t b ∣ t := Int.gcd_dvd_left (a := t) (b := b)
  have d2 : gcdI t b ∣ b := Int.gcd_dvd_right (a := t) (b := b)
  have e1 := Int.ediv_mul_cancel d1
  have e2 := Int.ediv_mul_cancel d2
  have r := (red_lowest ht hb).1
  refine ⟨r.p, r.q, ?_, ?_⟩
  · show b / gcdI t b ≤ 4 * (t / gcdI t b)
    generalize gcdI t b = g at *
    refine le_of_mul hg ?_
    rw [e2, Int.mul_assoc, e1]
    exact h1
  · show t / gcdI t b ≤ 4 * (b / gcdI t b)
    generalize gcdI t b = g at *
    refine le_of_mul hg ?_
    rw [e1, Int.mul_assoc, e2]
    exact h2
theorem middle_ok {a b : Rate} (ha : Rt a) (hb : Rt b) (ra : Rng a) (rb : Rng b) : Rng (middle a b) ∧ Sm (middle a b) := by
  have p1 : 0 < a.1 * b.2 := Int.mul_pos ha.red.p hb.red.q
  have p2 : 0 < b.1 * a.2 := Int.mul_pos hb.red.p ha.red.q
  have p3 : 0 < 2 * a.2 * b.2 := Int.mul_pos (by have := ha.red.q; omega) hb.red.q
  have b1 : a.1 * b.2 ≤ 2002000 * 2002000 := Int.mul_le_mul ha.P hb.Q (Int.le_of_lt hb.red.q) (by decide)
  have b2 : b.1 * a.2 ≤ 2002000 * 2002000 := Int.mul_le_mul hb.P ha.Q (Int.le_of_lt ha.red.q) (by decide)
  have e3 : 2 * a.2 * b.2 = 2 * (a.2 * b.2) := by grind
  have b3 : a.2 * b.2 ≤ 2002000 * 2002000 := Int.mul_le_mul ha.Q hb.Q (Int.le_of_lt hb.red.q) (by decide)
  have q1 : a.2 * b.2 ≤ 4 * a.1 * b.2 := Int.mul_le_mul_of_nonneg_right ra.lo (Int.le_of_lt rb.q)
  have q2 : b.2 * a.2 ≤ 4 * b.1 * a.2 := Int.mul_le_mul_of_nonneg_right rb.lo (Int.le_of_lt ra.q)
  have q3 : a.1 * b.2 ≤ 4 * a.2 * b.2 := Int.mul_le_mul_of_nonneg_right ra.hi (Int.le_of_lt rb.q)
  have q4 : b.1 * a.2 ≤ 4 * b.2 * a.2 := Int.mul_le_mul_of_nonneg_right rb.hi (Int.le_of_lt ra.q)
  have f1 : 4 * a.1 * b.2 = 4 * (a.1 * b.2) := by grind
  have f2 : 4 * b.1 * a.2 = 4 * (b.1 * a.2) := by grind
  have f3 : 4 * a.2 * b.2 = 4 * (a.2 * b.2) := by grind
  have f4 : 4 * b.2 * a.2 = 4 * (a.2 * b.2) := by grind
  have f5 : b.2 * a.2 = a.2 * b.2 := by grind
  refine ⟨rng_lowest (by omega) p3 (by omega) (by omega), ?_⟩
  exact (sb_lowest (B := 2 * (2002000 * 2002000)) (by omega) p3 (by omega) (by omega)).sm (by decide)
/-- what is known of a cell -/
structure CellOk (c : Span × Rate) : Prop where
  s : SpOk c.1
  m : Sm c.2
  g : Rng c.2
theorem low_high {l : List Rate} (h : ∀ r ∈ l, Rt r ∧ Rng r) : ∀ r ∈ LOW :: HIGH :: l, Rt r ∧ Rng r := fun r hr => by
  rcases List.mem_cons.mp hr with e | hr
  · rw [e]; exact ⟨rt_low, rng_low⟩
  · rcases List.mem_cons.mp hr with e | hr
    · rw [e]; exact ⟨rt_high, rng_high⟩
    · exact h r hr
theorem cells_ok {l : List Rate} (h : ∀ r ∈ l, Rt r ∧ Rng r) {c : Span × Rate} (hc : c ∈ cellsOf middle l) : CellOk c := by
  have h' := low_high h
  have srt : ∀ r ∈ sortR (LOW :: HIGH :: l), Rt r ∧ Rng r := fun r hr => h' r (((sortR_ok fun z hz => (h' z hz).1.red).2 r).mp hr)
  unfold cellsOf at hc
  rcases List.mem_cons.mp hc with e | hc
  · rw [e]; exact ⟨⟨rt_low, rt_low⟩, rt_low.sm, rng_low⟩
  · rw [pairs_flat] at hc
    obtain ⟨q, hq, hc⟩ := List.mem_flatMap.mp hc
    have q1 := srt q.1 (List.of_mem_zip hq).1
    have q2 := srt q.2 (List.mem_of_mem_tail (List.of_mem_zip hq).2)
    rcases List.mem_cons.mp hc with e | hc
    · rw [e]
      have := middle_ok q1.1 q2.1 q1.2 q2.2
      exact ⟨⟨q1.1, q2.1⟩, this.2, this.1⟩
    · rw [List.mem_singleton.mp hc]
      exact ⟨⟨q2.1, q2.1⟩, q2.1.sm, q2.2⟩
theorem cells_len {mid : Rate → Rate → Rate} {l : List Rate} (h : ∀ r ∈ l, Rt r) (hS : FewR (LOW :: HIGH :: l)) : (cellsOf mid l).length ≤ 8200 := by
  obtain ⟨S, h1, h2⟩ := hS
  have h' : ∀ r ∈ LOW :: HIGH :: l, Rt r := fun r hr => by
    rcases List.mem_cons.mp hr with e | hr
    · rw [e]; exact rt_low
    · rcases List.mem_cons.mp hr with e | hr
      · rw [e]; exact rt_high
      · exact h r hr
  have := sortR_len h' h2
  unfold cellsOf
  rw [List.length_cons, pairs_flat, flat_len2 _ fun _ => rfl, List.length_zip]
  omega
end Kx
end Sec_P8
section Sec_P9
set_option maxRecDepth 100000
/-! left_rows, parted, cheaper_rows, turns. -/
namespace Kx
open PySem PySem.Spec PyProof.Rows L2 DL AM
variable {P : Program} {w : World} {K : PySem.W.Frag} {mg : Str → Option Value} {base : Heap}
theorem eqv_P (x y : Pair) : PyData.eqv (ePair x) (ePair y) = decide (x = y) := by
  show PyData.eqvAll [eR x.1, eR x.2] [eR y.1, eR y.2] = _
  rw [PySem.W.eqv_all_cons, PySem.W.eqv_all_cons, eqv_R, eqv_R]
  by_cases h1 : x.1 = y.1 <;> by_cases h2 : x.2 = y.2 <;> simp [PyData.eqvAll, Prod.ext_iff, h1, h2]
theorem sh_P (x : Pair) : SeqAt.shaped (ePair x) = true := by simp [ePair, eR, SeqAt.shaped, PyData.canLay0, PyData.canLayAll0, PyData.depth, PyData.depthAll]
theorem eqv_W (x y : Word) : PyData.eqv (eWord x) (eWord y) = decide (x = y) := by cases x <;> cases y <;> decide +kernel
theorem sh_W (x : Word) : SeqAt.shaped (eWord x) = true := by cases x <;> decide +kernel
/-- a script of the world -/
structure ScOk (W : Wd) (ds : List Deed) : Prop where
  d : ∀ d ∈ ds, DOk W d
  n : ds.length ≤ 8
def rowOf (W : Wd) (one other : List Deed) (p : Int × Int) (c : Span × Rate) : Span × Pair := (c.1, (costs W one p c.2, costs W other p c.2))
theorem sc_left_rows : Sc ["world", "one", "other", "purse", "found", "span", "rate", "pair"] ["world", "one", "other", "purse"] 74 := ⟨rfl, rfl, rfl, by decide +kernel, rfl, by decide +kernel, by decide +kernel⟩
theorem c_left_rows (E : En K mg) {W : Wd} {one other : List Deed} {p : Int × Int} (h1 : ScOk W one) (h2 : ScOk W other) (hS : FewR (LOW :: HIGH :: scriptEdges W (one ++ other))) :
    Cal P w K mg base 7 "left_rows" [eW W, eDs one, eDs other, eR p] (.list ((leftRows W one other p).map (eRow ePair))) := by
  obtain ⟨f, fd, F, hm⟩ := E.f_left_rows
  have nd := sc_left_rows.nd
  have sz := sizeLine_eq
  have hb : ∀ d ∈ one ++ other, DOk W d := fun d hd => (List.mem_append.mp hd).elim (h1.d d) (h2.d d)
  have hn : (one ++ other).length ≤ 16 := by have := h1.n; have := h2.n; rw [List.length_append]; omega
  have ert := fun r hr => scriptEdges_rt (W := W) (ds := one ++ other) hb (r := r) hr
  have erg : ∀ r ∈ scriptEdges W (one ++ other), Rt r ∧ Rng r := fun r hr => ⟨ert r hr, scriptEdges_rng hb hr⟩
  have cl := cells_len (mid := middle) ert hS
  have el := scriptEdges_len hb
  refine cal_of (bg := []) F sc_left_rows hm (fun _ _ _ _ _ _ us hl => match us, hl with | [_, _, _, _], _ => rfl) rfl (by decide) fun f cdv A outer s' H Ex G hr => ?_
  refine bC (r1 := [.d (eW W), .d (eDs one), .d (eDs other), .d (eR p), .m true [], .u, .u, .u]) (sNewL 4 (by show 0 ≤ sizeLine; decide) aN nd) ?_
  refine bC (r1 := [.d (eW W), .d (eDs one), .d (eDs other), .d (eR p), .m true (((cellsOf middle (scriptEdges W (one ++ other))).map (rowOf W one other p)).map (eRow ePair)), .u, .u, .u])
    (sFor (iL (dCall (c_cells_of E ert (by omega) hS) (hr.mono (by decide)) (aC (dCall (c_script_edges E hb hn) hr (aC (dv 0) (aC (dTo (dCatT (xs := one.map eD) (ys := other.map eD) (by rw [List.length_map, List.length_map, ← List.length_append]; omega) (dv 1) (dv 2)) (y := eDs (one ++ other)) (by unfold eDs; rw [List.map_append])) aN))) aN))) ?_) ?_
  · have e : ∀ l : List (Span × Rate), l.map (rowOf W one other p) = l.flatMap fun c => [rowOf W one other p c] := fun l => by
      induction l with
      | nil => rfl
      | cons c l ih => rw [List.map_cons, List.flatMap_cons, ih]; rfl
    rw [e]
    refine for_acc (eRow eR) (fun acc => [.d (eW W), .d (eDs one), .d (eDs other), .d (eR p), .m true (acc.map (eRow ePair)), .u, .u, .u]) _ 10000 (cellsOf middle (scriptEdges W (one ++ other))) [] (by rw [← e, List.length_map]; simp; omega) fun c hc acc hacc => ?_
    have ok := cells_ok erg hc
    refine fS (gTu (gC (gNm 5 nd) (gC (gNm 6 nd) gN))) ?_
    refine bC (r1 := [.d (eW W), .d (eDs one), .d (eDs other), .d (eR p), .m true (acc.map (eRow ePair)), .d (eSpan c.1), .d (eR c.2), .d (ePair (costs W one p c.2, costs W other p c.2))])
      (sSet 7 (dTup2 (aC (dCall (c_costs E h1.d (by have := h1.n; omega) ok.m) (hr.mono (by decide)) (aC (dv 0) (aC (dv 1) (aC (dv 3) (aC (dv 6) aN))))) (aC (dCall (c_costs E h2.d (by have := h2.n; omega) ok.m) (hr.mono (by decide)) (aC (dv 0) (aC (dv 2) (aC (dv 3) (aC (dv 6) aN))))) aN))) nd) ?_
    refine bC (r1 := [.d (eW W), .d (eDs one), .d (eDs other), .d (eR p), .m true ((acc ++ [rowOf W one other p c]).map (eRow ePair)), .d (eSpan c.1), .d (eR c.2), .d (ePair (costs W one p c.2, costs W other p c.2))]) ?_ (bW [5, 6, 7])
    rw [List.map_append]
    exact sApp 4 (dTup2 (aC (dv 5) (aC (dv 7) aN))) (by rw [List.length_map]; simp at hacc; omega)
  · refine bFz (i := 4) rfl ?_
    exact b1 (sRet (dCall (c_joined E ePair eqv_P sh_P (rows := (cellsOf middle (scriptEdges W (one ++ other))).map (rowOf W one other p)) (by rw [List.length_map]; omega)) (hr.mono (by decide)) (aC (dv 4) aN)))
theorem sc_word_for : Sc ["mine", "yours", "rate", "far"] ["mine", "yours", "rate"] 75 := ⟨rfl, rfl, rfl, by decide +kernel, rfl, by decide +kernel, by decide +kernel⟩
theorem c_word_for (E : En K mg) {a b : Int × Int} {r : Rate} (h : Sm r) : Cal P w K mg base 1 "word_for" [eR a, eR b, eR r] (eWord (wordFor a b r)) := by
  obtain ⟨f, fd, F, hm⟩ := E.f_word_for
  have nd := sc_word_for.nd
  obtain ⟨g1, g2, g3, g4⟩ := h
  refine cal_of (bg := []) F sc_word_for hm (fun _ _ _ _ _ _ us hl => match us, hl with | [_, _, _], _ => rfl) rfl (by decide) fun f cdv A outer s' H Ex G hr => ?_
  refine bC (r1 := [.d (eR a), .d (eR b), .d (eR r), .d (.int (farOf a b r))]) (sSet 3 (dAdd (dMul (by simp only [CMul]; omega) (dSub (dI (dv 0) di) (dI (dv 1) di)) (dI (dv 2) di)) (dMul (by simp only [CMul]; omega) (dSub (dI (dv 0) di) (dI (dv 1) di)) (dI (dv 2) di))) nd) ?_
  refine b1 (sRet' (dIf (tEqI (dv 3) di) (fun _ => ds) (fun _ => dIf (tLt (dv 3) di) (fun _ => ds) (fun _ => ds))) ?_)
  unfold wordFor
  generalize farOf a b r = x
  simp only [beq_iff_eq, decide_eq_true_eq]
  split
  · rfl
  · split <;> rfl
/-! ### parted -/
structure Bd (p : Int × Int) : Prop where
  a : -960 ≤ p.1 ∧ p.1 ≤ 960
  b : -960 ≤ p.2 ∧ p.2 ≤ 960
theorem zeroOf_bd {a b : Int × Int} (ha : Bd a) (hb : Bd b) : (-1920 ≤ (zeroOf a b).1 ∧ (zeroOf a b).1 ≤ 1920) ∧ 0 ≤ (zeroOf a b).2 ∧ (zeroOf a b).2 ≤ 1920 := by
  obtain ⟨a1, a2⟩ := ha
  obtain ⟨b1, b2⟩ := hb
  unfold zeroOf
  split <;> (dsimp only; omega)
theorem partZero_rt {a b : Int × Int} (ha : Bd a) (hb : Bd b) : ∀ r ∈ partZero a b, Rt r := fun r hr => by
  have := zeroOf_bd ha hb
  unfold partZero at hr
  split at hr
  · rename_i h
    rw [List.mem_singleton.mp hr]
    exact rt_lowest h.2 h.1 (by omega) (by omega)
  · cases hr
def partOf (s : Span) (a b : Int × Int) (c : Span × Rate) : List (Span × Word) := match meet s c.1 with
  | none => []
  | some t => [(t, wordFor a b c.2)]
theorem parted_flat (s : Span) (a b : Int × Int) : ∀ l : List (Span × Rate), (l.filterMap fun c => (meet s c.1).map fun t => (t, wordFor a b c.2)) = l.flatMap (partOf s a b)
  | [] => rfl
  | c :: l => by
    rw [List.flatMap_cons, ← parted_flat s a b l]
    unfold partOf
    cases h : meet s c.1 with
    | none => rw [List.filterMap_cons_none (by rw [h]; rfl)]; rfl
    | some t => rw [List.filterMap_cons_some (b := (t, wordFor a b c.2)) (by rw [h]; rfl)]; rfl
theorem sc_parted : Sc ["span", "mine", "yours", "home", "far", "some", "found", "part", "rate", "both"] ["span", "mine", "yours"] 76 := ⟨rfl, rfl, rfl, by decide +kernel, rfl, by decide +kernel, by decide +kernel⟩
theorem part_in {s : Span} {a b : Int × Int} (hs : SpOk s) (ha : Bd a) (hb : Bd b) : ∀ r ∈ partZero a b ++ [s.1, s.2.2.1], Rt r := fun r hr => by
  rcases List.mem_append.mp hr with hr | hr
  · exact partZero_rt ha hb r hr
  · rcases List.mem_cons.mp hr with e | hr
    · rw [e]; exact hs.a
    · rw [List.mem_singleton.mp hr]; exact hs.b
theorem part_len (s : Span) (a b : Int × Int) : (within (partZero a b ++ [s.1, s.2.2.1])).length ≤ 3 := by
  refine Nat.le_trans (List.length_filter_le _ _) ?_
  rw [List.length_append]
  unfold partZero
  split <;> simp
theorem c_parted (E : En K mg) {s : Span} {a b : Int × Int} (hs : SpOk s) (ha : Bd a) (hb : Bd b) : Cal P w K mg base 4 "parted" [eSpan s, eR a, eR b] (.list ((parted s a b).map (eRow eWord))) := by
  obtain ⟨f, fd, F, hm⟩ := E.f_parted
  have nd := sc_parted.nd
  have sz := sizeLine_eq
  have zb := zeroOf_bd ha hb
  have pin := part_in hs ha hb
  have wrg : ∀ r ∈ within (partZero a b ++ [s.1, s.2.2.1]), Rt r ∧ Rng r := fun r hr => within_rng pin hr
  have pl := part_len s a b
  have few : FewR (LOW :: HIGH :: within (partZero a b ++ [s.1, s.2.2.1])) := ⟨_, by simp; omega, fun r hr => hr⟩
  have cl := cells_len (mid := middle) (fun r hr => (wrg r hr).1) few
  refine cal_of (bg := []) F sc_parted hm (fun _ _ _ _ _ _ us hl => match us, hl with | [_, _, _], _ => rfl) rfl (by decide) fun f cdv A outer s' H Ex G hr => ?_
  refine bC (r1 := [.d (eSpan s), .d (eR a), .d (eR b), .d (.int (a.1 - b.1)), .d (.int (b.2 - a.2)), .u, .u, .u, .u, .u]) (sPar 3 4 (aC (dSub (dI (dv 1) di) (dI (dv 2) di)) (aC (dSub (dI (dv 2) di) (dI (dv 1) di)) aN)) nd) ?_
  refine bIf2 (r2 := [.d (eSpan s), .d (eR a), .d (eR b), .d (.int (zeroOf a b).1), .d (.int (zeroOf a b).2), .u, .u, .u, .u, .u]) (tLt (dv 4) di) (fun h => ?_) (fun h => ?_) ?_
  · have e : zeroOf a b = (0 - (a.1 - b.1), 0 - (b.2 - a.2)) := if_pos (of_decide_eq_true h)
    rw [e]
    exact b1 (sPar 3 4 (aC (dSub di (dv 3)) (aC (dSub di (dv 4)) aN)) nd)
  · have e : zeroOf a b = (a.1 - b.1, b.2 - a.2) := if_neg (of_decide_eq_false h)
    rw [e]
    exact bN
  refine bC (r1 := [.d (eSpan s), .d (eR a), .d (eR b), .d (.int (zeroOf a b).1), .d (.int (zeroOf a b).2), .d (.list ((partZero a b).map eR)), .u, .u, .u, .u]) (sSet 5 (r1 := [.d (eSpan s), .d (eR a), .d (eR b), .d (.int (zeroOf a b).1), .d (.int (zeroOf a b).2), .u, .u, .u, .u, .u]) (dIf' (r1 := [.d (eSpan s), .d (eR a), .d (eR b), .d (.int (zeroOf a b).1), .d (.int (zeroOf a b).2), .u, .u, .u, .u, .u]) (tW (wAnd (tGt (dv 4) di) fun _ => wAnd1 (tGt (dv 3) di))) (fun h => ?_) (fun h => ?_)) nd) ?_
  · rw [Bool.and_eq_true, decide_eq_true_eq, decide_eq_true_eq] at h
    have e : partZero a b = [lowest (zeroOf a b).1 (zeroOf a b).2] := if_pos h
    rw [e]
    exact dLst1 (dCall (c_lowest E h.1 (by omega)) (hr.mono (by decide)) (aC (dv 3) (aC (dv 4) aN)))
  · rw [Bool.and_eq_false_iff, decide_eq_false_iff_not, decide_eq_false_iff_not] at h
    have e : partZero a b = [] := if_neg (by rintro ⟨z1, z2⟩; exact h.elim (fun c => c z1) fun c => c z2)
    rw [e]
    exact dLst0
  refine bC (r1 := [.d (eSpan s), .d (eR a), .d (eR b), .d (.int (zeroOf a b).1), .d (.int (zeroOf a b).2), .d (.list ((partZero a b).map eR)), .d (.list []), .u, .u, .u]) (sSet 6 dLst0 nd) ?_
  refine bC (r1 := [.d (eSpan s), .d (eR a), .d (eR b), .d (.int (zeroOf a b).1), .d (.int (zeroOf a b).2), .d (.list ((partZero a b).map eR)), .d (.list ((parted s a b).map (eRow eWord))), .u, .u, .u])
    (sFor (iL (dCall (c_cells_of E (fun r hr => (wrg r hr).1) (by omega) few) hr (aC (dCall (c_within E (l := partZero a b ++ [s.1, s.2.2.1]) (by rw [List.length_append]; unfold partZero; split <;> simp) fun r hr => (pin r hr).sm) (hr.mono (by decide))
      (aC (dTo (dCatL (xs := (partZero a b).map eR) (ys := [eR s.1, eR s.2.2.1]) (by rw [List.length_map]; unfold partZero; split <;> simp [sz]) (dv 5) (dLst (by show 2 ≤ sizeLine; decide) (aC (dI (dv 0) di) (aC (dI (dv 0) di) aN)))) (map_app (e := eR) (partZero a b) [s.1, s.2.2.1])) aN)) aN))) ?_) (b1 (sRet (dv 6)))
  unfold parted
  rw [parted_flat]
  have fl : ∀ l : List (Span × Rate), (l.flatMap (partOf s a b)).length ≤ l.length := by
    intro l
    rw [← parted_flat]
    exact List.length_filterMap_le _ _
  refine for_acc (eRow eR) (fun acc => [.d (eSpan s), .d (eR a), .d (eR b), .d (.int (zeroOf a b).1), .d (.int (zeroOf a b).2), .d (.list ((partZero a b).map eR)), .d (.list (acc.map (eRow eWord))), .u, .u, .u]) _ 10000 _ [] (by have := fl (cellsOf middle (within (partZero a b ++ [s.1, s.2.2.1]))); rw [List.length_nil]; omega) fun c hc acc hacc => ?_
  have ok := cells_ok wrg hc
  refine fS (gTu (gC (gNm 7 nd) (gC (gNm 8 nd) gN))) ?_
  refine bC (r1 := [.d (eSpan s), .d (eR a), .d (eR b), .d (.int (zeroOf a b).1), .d (.int (zeroOf a b).2), .d (.list ((partZero a b).map eR)), .d (.list (acc.map (eRow eWord))), .d (eSpan c.1), .d (eR c.2), .d (eO eSpan (meet s c.1))]) (sSet 9 (dCall (c_meet E hs ok.s) (hr.mono (by decide)) (aC (dv 0) (aC (dv 7) aN))) nd) ?_
  unfold partOf at hacc ⊢
  cases hm : meet s c.1 with
  | none =>
    rw [hm] at hacc
    dsimp only
    rw [List.append_nil]
    exact bIf (tNotN' (x := .none) (dv 9)) (fun h => absurd (show false = true from h) (by decide)) fun _ => br0 (bW [7, 8, 9])
  | some t =>
    rw [hm] at hacc
    dsimp only at hacc ⊢
    exact bIf (tNotN' (x := eSpan t) (dv 9)) (fun _ => brN (b1 (sSet 6 (dTo (dCatL (xs := acc.map (eRow eWord)) (ys := [eRow eWord (t, wordFor a b c.2)]) (by rw [List.length_map]; simp at hacc ⊢; omega) (dv 6) (dLst1 (dTup2 (aC (dv 9) (aC (dCall (c_word_for E ok.m) (hr.mono (by decide)) (aC (dv 1) (aC (dv 2) (aC (dv 8) aN)))) aN))))) (map_snoc (e := eRow eWord) acc (t, wordFor a b c.2))) nd)) (bW [7, 8, 9])) fun h => absurd (show true = false from h) (by decide)
end Kx
end Sec_P9
section Sec_P10
set_option maxRecDepth 100000
/-! cheaper_rows. -/
namespace Kx
open PySem PySem.Spec PyProof.Rows L2 DL AM
variable {P : Program} {w : World} {K : PySem.W.Frag} {mg : Str → Option Value} {base : Heap}
section
variable {α : Type} [DecidableEq α]
theorem joinGo_mem : ∀ (l : List (Span × α)) (last row : Span × α), row ∈ joinGo l last → (∃ a ∈ last :: l, row.1.1 = a.1.1) ∧ (∃ a ∈ last :: l, row.1.2.2.1 = a.1.2.2.1) ∧ ∃ a ∈ last :: l, row.2 = a.2
  | [], last, row, h => by
    rw [List.mem_singleton.mp h]
    exact ⟨⟨_, List.mem_cons_self, rfl⟩, ⟨_, List.mem_cons_self, rfl⟩, ⟨_, List.mem_cons_self, rfl⟩⟩
  | (s, x) :: l, last, row, h => by
    unfold joinGo at h
    split at h
    · obtain ⟨⟨a, ha, ea⟩, ⟨b, hb, eb⟩, ⟨c, hc, ec⟩⟩ := joinGo_mem l _ row h
      refine ⟨?_, ?_, ?_⟩
      · rcases List.mem_cons.mp ha with e | ha
        · exact ⟨last, List.mem_cons_self, by rw [ea, e]⟩
        · exact ⟨a, List.mem_cons_of_mem _ (List.mem_cons_of_mem _ ha), ea⟩
      · rcases List.mem_cons.mp hb with e | hb
        · exact ⟨(s, x), List.mem_cons_of_mem _ List.mem_cons_self, by rw [eb, e]⟩
        · exact ⟨b, List.mem_cons_of_mem _ (List.mem_cons_of_mem _ hb), eb⟩
      · rcases List.mem_cons.mp hc with e | hc
        · exact ⟨(s, x), List.mem_cons_of_mem _ List.mem_cons_self, by rw [ec, e]⟩
        · exact ⟨c, List.mem_cons_of_mem _ (List.mem_cons_of_mem _ hc), ec⟩
    · rcases List.mem_cons.mp h with e | h
      · rw [e]
        exact ⟨⟨_, List.mem_cons_self, rfl⟩, ⟨_, List.mem_cons_self, rfl⟩, ⟨_, List.mem_cons_self, rfl⟩⟩
      · obtain ⟨⟨a, ha, ea⟩, ⟨b, hb, eb⟩, ⟨c, hc, ec⟩⟩ := joinGo_mem l _ row h
        exact ⟨⟨a, List.mem_cons_of_mem _ ha, ea⟩, ⟨b, List.mem_cons_of_mem _ hb, eb⟩, ⟨c, List.mem_cons_of_mem _ hc, ec⟩⟩
theorem joined_mem {l : List (Span × α)} {row : Span × α} (h : row ∈ joined l) : (∃ a ∈ l, row.1.1 = a.1.1) ∧ (∃ a ∈ l, row.1.2.2.1 = a.1.2.2.1) ∧ ∃ a ∈ l, row.2 = a.2 := by
  cases l with
  | nil => cases h
  | cons last l => exact joinGo_mem l last row h
end
theorem cells_len2 {mid : Rate → Rate → Rate} {l S : List Rate} (h : ∀ r ∈ l, Rt r) (hS : ∀ r ∈ LOW :: HIGH :: l, r ∈ S) : (cellsOf mid l).length ≤ 2 * S.length + 1 := by
  have h' : ∀ r ∈ LOW :: HIGH :: l, Rt r := fun r hr => by
    rcases List.mem_cons.mp hr with e | hr
    · rw [e]; exact rt_low
    · rcases List.mem_cons.mp hr with e | hr
      · rw [e]; exact rt_high
      · exact h r hr
  have := sortR_len h' hS
  unfold cellsOf
  rw [List.length_cons, pairs_flat, flat_len2 _ fun _ => rfl, List.length_zip]
  omega
/-- few edges -/
def Few1 (l : List Rate) : Prop := ∃ S : List Rate, S.length ≤ 1300 ∧ ∀ r ∈ LOW :: HIGH :: l, r ∈ S
theorem Few1.few {l : List Rate} (h : Few1 l) : FewR (LOW :: HIGH :: l) := by
  obtain ⟨S, h1, h2⟩ := h
  exact ⟨S, by omega, h2⟩
section
variable {W : Wd} {one other : List Deed} {p : Int × Int}
theorem both_ok (h1 : ScOk W one) (h2 : ScOk W other) : (∀ d ∈ one ++ other, DOk W d) ∧ (one ++ other).length ≤ 16 :=
  ⟨fun d hd => (List.mem_append.mp hd).elim (h1.d d) (h2.d d), by have := h1.n; have := h2.n; rw [List.length_append]; omega⟩
theorem edges_ok (h1 : ScOk W one) (h2 : ScOk W other) : ∀ r ∈ scriptEdges W (one ++ other), Rt r ∧ Rng r := fun r hr => ⟨scriptEdges_rt (both_ok h1 h2).1 hr, scriptEdges_rng (both_ok h1 h2).1 hr⟩
structure RowOk (row : Span × Pair) : Prop where
  s : SpOk row.1
  a : Bd row.2.1
  b : Bd row.2.2
theorem costs_Bd {ds : List Deed} (h : ScOk W ds) {r : Rate} (hr : Rng r) : Bd (costs W ds p r) := by
  have := costs_bd (p := p) hr (fun d hd => dok_db (h.d d hd)) (by have := h.n; omega)
  exact ⟨this.1, this.2⟩
theorem leftRows_ok (h1 : ScOk W one) (h2 : ScOk W other) {row : Span × Pair} (h : row ∈ leftRows W one other p) : RowOk row := by
  obtain ⟨⟨a, ha, ea⟩, ⟨b, hb, eb⟩, ⟨c, hc, ec⟩⟩ := joined_mem h
  obtain ⟨a', ha', rfl⟩ := List.mem_map.mp ha
  obtain ⟨b', hb', rfl⟩ := List.mem_map.mp hb
  obtain ⟨c', hc', rfl⟩ := List.mem_map.mp hc
  have oa := cells_ok (edges_ok h1 h2) ha'
  have ob := cells_ok (edges_ok h1 h2) hb'
  have oc := cells_ok (edges_ok h1 h2) hc'
  exact ⟨⟨by rw [ea]; exact oa.s.a, by rw [eb]; exact ob.s.b⟩, by rw [ec]; exact costs_Bd h1 oc.g, by rw [ec]; exact costs_Bd h2 oc.g⟩
theorem leftRows_len (h1 : ScOk W one) (h2 : ScOk W other) {S : List Rate} (hS : ∀ r ∈ LOW :: HIGH :: scriptEdges W (one ++ other), r ∈ S) : (leftRows W one other p).length ≤ 2 * S.length + 1 := by
  refine Nat.le_trans (joined_len _) ?_
  rw [List.length_map]
  exact cells_len2 (fun r hr => (edges_ok h1 h2 r hr).1) hS
theorem parted_len {s : Span} {a b : Int × Int} (hs : SpOk s) (ha : Bd a) (hb : Bd b) : (parted s a b).length ≤ 11 := by
  refine Nat.le_trans (List.length_filterMap_le _ _) ?_
  have := cells_len2 (mid := middle) (l := within (partZero a b ++ [s.1, s.2.2.1])) (S := LOW :: HIGH :: within (partZero a b ++ [s.1, s.2.2.1])) (fun r hr => (within_rng (part_in hs ha hb) hr).1) fun r hr => hr
  have := part_len s a b
  simp at *
  omega
theorem meet_low {s c t : Span} (h : meet s c = some t) : (t.1 = s.1 ∨ t.1 = c.1) ∧ (t.2.2.1 = s.2.2.1 ∨ t.2.2.1 = c.2.2.1) := by
  let lo : Rate × Bool := if isLess s.1 c.1 = true ∨ (s.1 = c.1 ∧ c.2.1 = false) then (c.1, c.2.1) else (s.1, s.2.1)
  have hlo : lo = if isLess s.1 c.1 = true ∨ (s.1 = c.1 ∧ c.2.1 = false) then (c.1, c.2.1) else (s.1, s.2.1) := rfl
  let hi : Rate × Bool := if isLess c.2.2.1 s.2.2.1 = true ∨ (s.2.2.1 = c.2.2.1 ∧ c.2.2.2 = false) then (c.2.2.1, c.2.2.2) else (s.2.2.1, s.2.2.2)
  have hhi : hi = if isLess c.2.2.1 s.2.2.1 = true ∨ (s.2.2.1 = c.2.2.1 ∧ c.2.2.2 = false) then (c.2.2.1, c.2.2.2) else (s.2.2.1, s.2.2.2) := rfl
  have hres : meet s c = if isLess hi.1 lo.1 = true ∨ (lo.1 = hi.1 ∧ ¬ (lo.2 = true ∧ hi.2 = true)) then none else some (lo.1, lo.2, hi.1, hi.2) := rfl
  clear_value lo hi
  rw [hres] at h
  by_cases k : isLess hi.1 lo.1 = true ∨ (lo.1 = hi.1 ∧ ¬ (lo.2 = true ∧ hi.2 = true))
  · rw [if_pos k] at h; cases h
  · rw [if_neg k] at h
    cases h
    refine ⟨?_, ?_⟩
    · show lo.1 = s.1 ∨ lo.1 = c.1
      rw [hlo]
      split
      · exact .inr rfl
      · exact .inl rfl
    · show hi.1 = s.2.2.1 ∨ hi.1 = c.2.2.1
      rw [hhi]
      split
      · exact .inr rfl
      · exact .inl rfl
theorem parted_mem {s : Span} {a b : Int × Int} (hs : SpOk s) (ha : Bd a) (hb : Bd b) {row : Span × Word} (h : row ∈ parted s a b) :
    (row.1.1 ∈ LOW :: HIGH :: (partZero a b ++ [s.1, s.2.2.1])) ∧ row.1.2.2.1 ∈ LOW :: HIGH :: (partZero a b ++ [s.1, s.2.2.1]) := by
  obtain ⟨c, hc, e⟩ := List.mem_filterMap.mp h
  obtain ⟨t, ht, e2⟩ := Option.map_eq_some_iff.mp e
  have ml := meet_low ht
  have wrg : ∀ r ∈ within (partZero a b ++ [s.1, s.2.2.1]), Rt r := fun r hr => (within_rng (part_in hs ha hb) hr).1
  have srt : ∀ r, r ∈ sortR (LOW :: HIGH :: within (partZero a b ++ [s.1, s.2.2.1])) → r ∈ LOW :: HIGH :: (partZero a b ++ [s.1, s.2.2.1]) := fun r hr => by
    have := ((sortR_ok (l := LOW :: HIGH :: within (partZero a b ++ [s.1, s.2.2.1])) fun z hz => by
      rcases List.mem_cons.mp hz with e | hz
      · rw [e]; exact red_low
      · rcases List.mem_cons.mp hz with e | hz
        · rw [e]; exact red_high
        · exact (wrg z hz).red).2 r).mp hr
    rcases List.mem_cons.mp this with e | this
    · rw [e]; exact List.mem_cons_self
    · rcases List.mem_cons.mp this with e | this
      · rw [e]; exact List.mem_cons_of_mem _ List.mem_cons_self
      · exact List.mem_cons_of_mem _ (List.mem_cons_of_mem _ (List.mem_filter.mp this).1)
  have cin : c.1.1 ∈ LOW :: HIGH :: (partZero a b ++ [s.1, s.2.2.1]) ∧ c.1.2.2.1 ∈ LOW :: HIGH :: (partZero a b ++ [s.1, s.2.2.1]) := by
    unfold cellsOf at hc
    rcases List.mem_cons.mp hc with e | hc
    · rw [e]; exact ⟨List.mem_cons_self, List.mem_cons_self⟩
    · rw [pairs_flat] at hc
      obtain ⟨q, hq, hc⟩ := List.mem_flatMap.mp hc
      have q1 := srt q.1 (List.of_mem_zip hq).1
      have q2 := srt q.2 (List.mem_of_mem_tail (List.of_mem_zip hq).2)
      rcases List.mem_cons.mp hc with e | hc
      · rw [e]; exact ⟨q1, q2⟩
      · rw [List.mem_singleton.mp hc]; exact ⟨q2, q2⟩
  have s1 : s.1 ∈ LOW :: HIGH :: (partZero a b ++ [s.1, s.2.2.1]) := by simp
  have s2 : s.2.2.1 ∈ LOW :: HIGH :: (partZero a b ++ [s.1, s.2.2.1]) := by simp
  rw [← e2]
  exact ⟨ml.1.elim (fun e => e ▸ s1) (fun e => e ▸ cin.1), ml.2.elim (fun e => e ▸ s2) (fun e => e ▸ cin.2)⟩
end
theorem sc_cheaper_rows : Sc ["world", "one", "other", "purse", "found", "span", "pair"] ["world", "one", "other", "purse"] 77 := ⟨rfl, rfl, rfl, by decide +kernel, rfl, by decide +kernel, by decide +kernel⟩
theorem c_cheaper_rows (E : En K mg) {W : Wd} {one other : List Deed} {p : Int × Int} (h1 : ScOk W one) (h2 : ScOk W other) (hS : Few1 (scriptEdges W (one ++ other))) :
    Cal P w K mg base 8 "cheaper_rows" [eW W, eDs one, eDs other, eR p] (.list ((cheaperRows W one other p).map (eRow eWord))) := by
  obtain ⟨f, fd, F, hm⟩ := E.f_cheaper_rows
  have nd := sc_cheaper_rows.nd
  have sz := sizeLine_eq
  have ok := fun row hr => leftRows_ok (p := p) h1 h2 (row := row) hr
  have ll : (leftRows W one other p).length ≤ 2601 := by
    obtain ⟨S, s1, s2⟩ := hS
    have := leftRows_len (p := p) h1 h2 s2
    omega
  have fl : ∀ l : List (Span × Pair), (∀ row ∈ l, RowOk row) → (l.flatMap fun row => parted row.1 row.2.1 row.2.2).length ≤ 11 * l.length := by
    intro l
    induction l with
    | nil => exact fun _ => Nat.le_refl _
    | cons row l ih =>
      intro h
      have r := h row List.mem_cons_self
      have := parted_len r.s r.a r.b
      have := ih fun x hx => h x (List.mem_cons_of_mem _ hx)
      rw [List.flatMap_cons, List.length_append, List.length_cons]
      omega
  have fl1 := fl _ ok
  refine cal_of (bg := []) F sc_cheaper_rows hm (fun _ _ _ _ _ _ us hl => match us, hl with | [_, _, _, _], _ => rfl) rfl (by decide) fun f cdv A outer s' H Ex G hr => ?_
  refine bC (r1 := [.d (eW W), .d (eDs one), .d (eDs other), .d (eR p), .d (.list []), .u, .u]) (sSet 4 dLst0 nd) ?_
  refine bC (r1 := [.d (eW W), .d (eDs one), .d (eDs other), .d (eR p), .d (.list (((leftRows W one other p).flatMap fun row => parted row.1 row.2.1 row.2.2).map (eRow eWord))), .u, .u])
    (sFor (iL (dCall (c_left_rows E h1 h2 hS.few) hr (aC (dv 0) (aC (dv 1) (aC (dv 2) (aC (dv 3) aN)))))) ?_) ?_
  · refine for_acc (eRow ePair) (fun acc => [.d (eW W), .d (eDs one), .d (eDs other), .d (eR p), .d (.list (acc.map (eRow eWord))), .u, .u]) _ 100000 (leftRows W one other p) [] (by rw [List.length_nil]; omega) fun row hrow acc hacc => ?_
    have r := ok row hrow
    refine fS (gTu (gC (gNm 5 nd) (gC (gNm 6 nd) gN))) (bC (sSet 4 (dTo (dCatL ?_ (dv 4) (dCall (c_parted E r.s r.a r.b) (hr.mono (by decide)) (aC (dv 5) (aC (dI (dv 6) di) (aC (dI (dv 6) di) aN))))) (map_app (e := eRow eWord) acc _)) nd) (bW [5, 6]))
    rw [List.length_map, List.length_map]
    omega
  · have e : cheaperRows W one other p = joined ((leftRows W one other p).flatMap fun row => parted row.1 row.2.1 row.2.2) := rfl
    rw [e]
    have hlen : ((leftRows W one other p).flatMap fun row => parted row.1 row.2.1 row.2.2).length ≤ 500000 := by omega
    generalize ((leftRows W one other p).flatMap fun row => parted row.1 row.2.1 row.2.2) = rows at hlen
    exact b1 (sRet (dCall (c_joined E eWord eqv_W sh_W (rows := rows) hlen) (hr.mono (by decide)) (aC (dv 4) aN)))
/-- the rows' low ends -/
theorem rows_few {W : Wd} {one other : List Deed} {p : Int × Int} (h1 : ScOk W one) (h2 : ScOk W other) (hS : Few1 (scriptEdges W (one ++ other))) : (∀ row ∈ cheaperRows W one other p, Rt row.1.1) ∧ FewR ((cheaperRows W one other p).tail.map fun row => row.1.1) := by
  obtain ⟨S, s1, s2⟩ := hS
  have ll := leftRows_len (p := p) h1 h2 s2
  have key : ∀ row ∈ cheaperRows W one other p, ∃ lr ∈ leftRows W one other p, row.1.1 ∈ LOW :: HIGH :: (partZero lr.2.1 lr.2.2 ++ [lr.1.1, lr.1.2.2.1]) := fun row hr => by
    obtain ⟨⟨a, ha, ea⟩, _⟩ := joined_mem hr
    obtain ⟨lr, hlr, ha⟩ := List.mem_flatMap.mp ha
    have ok := leftRows_ok (p := p) h1 h2 hlr
    exact ⟨lr, hlr, by rw [ea]; exact (parted_mem ok.s ok.a ok.b ha).1⟩
  have pz : ∀ l : List (Span × Pair), (l.flatMap fun row => partZero row.2.1 row.2.2).length ≤ l.length := by
    intro l
    induction l with
    | nil => exact Nat.le_refl _
    | cons row l ih =>
      have : (partZero row.2.1 row.2.2).length ≤ 1 := by unfold partZero; split <;> simp
      rw [List.flatMap_cons, List.length_append, List.length_cons]
      omega
  have lend : ∀ lr ∈ leftRows W one other p, lr.1.1 ∈ S ∧ lr.1.2.2.1 ∈ S := fun lr hlr => by
    obtain ⟨⟨a, ha, ea⟩, ⟨b, hb, eb⟩, _⟩ := joined_mem hlr
    obtain ⟨a', ha', rfl⟩ := List.mem_map.mp ha
    obtain ⟨b', hb', rfl⟩ := List.mem_map.mp hb
    have srt : ∀ r, r ∈ sortR (LOW :: HIGH :: scriptEdges W (one ++ other)) → r ∈ S := fun r hr => s2 r (((sortR_ok (l := LOW :: HIGH :: scriptEdges W (one ++ other)) fun z hz => (low_high (edges_ok h1 h2) z hz).1.red).2 r).mp hr)
    have cin : ∀ c ∈ cellsOf middle (scriptEdges W (one ++ other)), c.1.1 ∈ S ∧ c.1.2.2.1 ∈ S := fun c hc => by
      unfold cellsOf at hc
      rcases List.mem_cons.mp hc with e | hc
      · rw [e]; exact ⟨s2 _ List.mem_cons_self, s2 _ List.mem_cons_self⟩
      · rw [pairs_flat] at hc
        obtain ⟨q, hq, hc⟩ := List.mem_flatMap.mp hc
        have q1 := srt q.1 (List.of_mem_zip hq).1
        have q2 := srt q.2 (List.mem_of_mem_tail (List.of_mem_zip hq).2)
        rcases List.mem_cons.mp hc with e | hc
        · rw [e]; exact ⟨q1, q2⟩
        · rw [List.mem_singleton.mp hc]; exact ⟨q2, q2⟩
    rw [ea, eb]
    exact ⟨(cin a' ha').1, (cin b' hb').2⟩
  refine ⟨fun row hr => ?_, ⟨S ++ (leftRows W one other p).flatMap fun row => partZero row.2.1 row.2.2, ?_, fun r hr => ?_⟩⟩
  · obtain ⟨lr, hlr, h⟩ := key row hr
    have ok := leftRows_ok (p := p) h1 h2 hlr
    rcases List.mem_cons.mp h with e | h
    · rw [e]; exact rt_low
    · rcases List.mem_cons.mp h with e | h
      · rw [e]; exact rt_high
      · exact part_in ok.s ok.a ok.b _ h
  · rw [List.length_append]
    have := pz (leftRows W one other p)
    omega
  · obtain ⟨row, hrw, rfl⟩ := List.mem_map.mp hr
    obtain ⟨lr, hlr, h⟩ := key row (List.mem_of_mem_tail hrw)
    have le := lend lr hlr
    rcases List.mem_cons.mp h with e | h
    · rw [e]; exact List.mem_append_left _ (s2 _ List.mem_cons_self)
    · rcases List.mem_cons.mp h with e | h
      · rw [e]; exact List.mem_append_left _ (s2 _ (List.mem_cons_of_mem _ List.mem_cons_self))
      · rcases List.mem_append.mp h with h | h
        · exact List.mem_append_right _ (List.mem_flatMap.mpr ⟨lr, hlr, h⟩)
        · rcases List.mem_cons.mp h with e | h
          · rw [e]; exact List.mem_append_left _ le.1
          · rw [List.mem_singleton.mp h]; exact List.mem_append_left _ le.2
end Kx
end Sec_P10
section Sec_P11
set_option maxRecDepth 100000
/-! The checks: numbers, rules, worlds. -/
namespace Kx
open PySem PySem.Spec PyProof.Rows L2 DL AM
variable {P : Program} {w : World} {K : PySem.W.Frag} {mg : Str → Option Value} {base : Heap}
structure VRo (o : Ro) : Prop where
  k : RoOk o
  n : o.m = .nine → 1 < o.s
structure VRu (u : Ru) : Prop where
  k : RuOk u
  n : u.m = .nine → 1 < u.s
theorem sc_is_number : Sc ["value"] ["value"] 31 := ⟨rfl, rfl, rfl, by decide +kernel, rfl, by decide +kernel, by decide +kernel⟩
theorem c_is_number (E : En K mg) {i : Int} : Cal P w K mg base 1 "is_number" [.int i] (.bool true) := by
  obtain ⟨f, fd, F, hm⟩ := E.f_is_number
  refine cal_of (bg := []) F sc_is_number hm (fun _ _ _ _ _ _ us hl => match us, hl with | [_], _ => rfl) rfl (by decide) fun f cdv A outer s' H Ex G hr => ?_
  exact b1 (sRet' (dAnd (dIsi (x := .int i) (T := "int") (res := true) E.b_isinstance E.b_int (by decide +kernel) (dv 0) (show kitB "int" "int" = some true by decide +kernel)) fun _ => dOne (dNot (dIsi (x := .int i) (T := "bool") (res := false) E.b_isinstance E.b_bool (by decide +kernel) (dv 0) (show kitB "int" "bool" = some false by decide +kernel)))) rfl)
theorem sc_is_from : Sc ["value", "low", "high"] ["value", "low", "high"] 32 := ⟨rfl, rfl, rfl, by decide +kernel, rfl, by decide +kernel, by decide +kernel⟩
theorem c_is_from (E : En K mg) {i lo hi : Int} (h : lo ≤ i ∧ i ≤ hi) : Cal P w K mg base 2 "is_from" [.int i, .int lo, .int hi] (.bool true) := by
  obtain ⟨f, fd, F, hm⟩ := E.f_is_from
  refine cal_of (bg := []) F sc_is_from hm (fun _ _ _ _ _ _ us hl => match us, hl with | [_, _, _], _ => rfl) rfl (by decide) fun f cdv A outer s' H Ex G hr => ?_
  exact b1 (sRet' (dAnd (dCall (c_is_number E) hr (aC (dv 0) aN)) fun _ => dOne (dChLe (dv 1) (dv 0) (dv 2))) (by rw [decide_eq_true h.1, decide_eq_true h.2]; rfl))
theorem sc_is_tuple_of : Sc ["value", "many"] ["value", "many"] 33 := ⟨rfl, rfl, rfl, by decide +kernel, rfl, by decide +kernel, by decide +kernel⟩
theorem c_is_tuple_of (E : En K mg) {xs : List PyData} {n : Int} (h : (xs.length : Int) = n) : Cal P w K mg base 1 "is_tuple_of" [.tuple xs, .int n] (.bool true) := by
  obtain ⟨f, fd, F, hm⟩ := E.f_is_tuple_of
  refine cal_of (bg := []) F sc_is_tuple_of hm (fun _ _ _ _ _ _ us hl => match us, hl with | [_, _], _ => rfl) rfl (by decide) fun f cdv A outer s' H Ex G hr => ?_
  exact b1 (sRet' (dAnd (dIsi (x := .tuple xs) (T := "tuple") (res := true) E.b_isinstance E.b_tuple (by decide +kernel) (dv 0) (show kitB "tuple" "tuple" = some true by decide +kernel)) fun _ => dOne (dEqI (dLen (xs := xs) E.b_len (.inr rfl) (aC (dv 0) aN)) (dv 1))) (by rw [h]; simp))
theorem sc_is_word : Sc ["value", "some"] ["value", "some"] 34 := ⟨rfl, rfl, rfl, by decide +kernel, rfl, by decide +kernel, by decide +kernel⟩
theorem c_is_word (E : En K mg) {x : Str} {ds : List PyData} (h1 : SeqAt.shaped (.str x) = true) (h2 : SeqAt.shaped (.list ds) = true) (h : (ds.any fun z => PyData.eqv z (.str x)) = true) : Cal P w K mg base 1 "is_word" [.str x, .tuple ds] (.bool true) := by
  obtain ⟨f, fd, F, hm⟩ := E.f_is_word
  refine cal_of (bg := []) F sc_is_word hm (fun _ _ _ _ _ _ us hl => match us, hl with | [_, _], _ => rfl) rfl (by decide) fun f cdv A outer s' H Ex G hr => ?_
  exact b1 (sRet' (dAnd (dIsi (x := .str x) (T := "str") (res := true) E.b_isinstance E.b_str (by decide +kernel) (dv 0) (show kitB "str" "str" = some true by decide +kernel)) fun _ => dOne (dIn (u65 hr) (.inr rfl) h1 h2 h (dv 0) (dv 1))) rfl)
theorem modes_any (m : Mode) : ([PyData.str "down", .str "near", .str "nine", .str "up"].any fun z => PyData.eqv z (.str (ms m))) = true := by cases m <;> decide +kernel
theorem sc_is_rounding : Sc ["value"] ["value"] 35 := ⟨rfl, rfl, rfl, by decide +kernel, rfl, by decide +kernel, by decide +kernel⟩
theorem c_is_rounding (E : En K mg) {o : Ro} (h : VRo o) : Cal P w K mg base 3 "is_rounding" [eRo o] (.bool true) := by
  obtain ⟨f, fd, F, hm⟩ := E.f_is_rounding
  obtain ⟨⟨h0, h1⟩, h2⟩ := h
  refine cal_of (bg := []) F sc_is_rounding hm (fun _ _ _ _ _ _ us hl => match us, hl with | [_], _ => rfl) rfl (by decide) fun f cdv A outer s' H Ex G hr => ?_
  refine bIf (k := false) (tTo (tW (wOr (tNot' (tV (dCall (c_is_tuple_of E (xs := [.str (ms o.m), .int o.s]) rfl) (hr.mono (by decide)) (aC (dv 0) (aC di aN))))) fun _ => wOr (tNot' (tV (dCall (c_is_word E (sh_ms o.m) (by decide +kernel) (modes_any o.m)) (hr.mono (by decide)) (aC (dI (dv 0) di) (aC (dg E.t_RULE_MODES) aN))))) fun _ =>
    wOr1 (tNot' (tV (dCall (c_is_from E (i := o.s) (lo := 1) (hi := 10) (by omega)) hr (aC (dI (dv 0) di) (aC di (aC (dg E.i_MOST_STEP) aN)))))))) rfl) (fun h => absurd h (by decide)) fun _ => br0 (b1 (sRet' (dOr (dNeS (p := ms o.m) (dI (dv 0) di) ds) fun _ => dOne (dGt (dI (dv 0) di) di)) ?_))
  congr 1
  cases hm : o.m with
  | nine => rw [decide_eq_true (h2 hm), Bool.or_true]
  | down => rfl
  | up => rfl
  | near => rfl
theorem sc_is_rule : Sc ["value"] ["value"] 36 := ⟨rfl, rfl, rfl, by decide +kernel, rfl, by decide +kernel, by decide +kernel⟩
theorem c_is_rule (E : En K mg) {u : Ru} (h : VRu u) : Cal P w K mg base 4 "is_rule" [eRu u] (.bool true) := by
  obtain ⟨f, fd, F, hm⟩ := E.f_is_rule
  have hv : VRo ⟨u.m, u.s⟩ := ⟨⟨h.k.s0, h.k.s1⟩, h.n⟩
  obtain ⟨⟨h0, h1, c0, c1, k0, k1⟩, h2⟩ := h
  refine cal_of (bg := []) F sc_is_rule hm (fun _ _ _ _ _ _ us hl => match us, hl with | [_], _ => rfl) rfl (by decide) fun f cdv A outer s' H Ex G hr => ?_
  refine bIf (k := false) (tTo (tW (wOr (tNot' (tV (dCall (c_is_tuple_of E (xs := [.str (ms u.m), .int u.s, .int u.c, .int u.k]) rfl) (hr.mono (by decide)) (aC (dv 0) (aC di aN))))) fun _ => wOr1 (tNot' (tV (dCall (c_is_rounding E hv) hr (aC (dTo (dSlT (xs := [.str (ms u.m), .int u.s, .int u.c, .int u.k]) (dv 0) oN (oS di)) (y := eRo ⟨u.m, u.s⟩) rfl) aN)))))) rfl)
    (fun h => absurd h (by decide)) fun _ => br0 (b1 (sRet' (dAnd (dCall (c_is_from E (i := u.c) (lo := 0) (hi := 30) ⟨c0, c1⟩) (hr.mono (by decide)) (aC (dI (dv 0) di) (aC di (aC (dg E.i_MOST_CHARGE) aN)))) fun _ => dOne (dCall (c_is_from E (i := u.k) (lo := 0) (hi := 50) ⟨k0, k1⟩) (hr.mono (by decide)) (aC (dI (dv 0) di) (aC di (aC (dg E.i_MOST_CUT) aN))))) rfl))
structure OOk (o : Office) : Prop where
  a : ∀ u, o.1 = some u → VRu u
  b : ∀ u, o.2 = some u → VRu u
  s : o.1 ≠ none ∨ o.2 ≠ none
theorem sc_is_office : Sc ["value", "rule"] ["value"] 37 := ⟨rfl, rfl, rfl, by decide +kernel, rfl, by decide +kernel, by decide +kernel⟩
theorem isN_O (o : Option Ru) : isN (eORu o) = o.isNone := by cases o <;> rfl
theorem c_is_office (E : En K mg) {o : Office} (h : OOk o) : Cal P w K mg base 5 "is_office" [eOff o] (.bool true) := by
  obtain ⟨f, fd, F, hm⟩ := E.f_is_office
  have nd := sc_is_office.nd
  have sz := sizeLine_eq
  refine cal_of (bg := []) F sc_is_office hm (fun _ _ _ _ _ _ us hl => match us, hl with | [_], _ => rfl) rfl (by decide) fun f cdv A outer s' H Ex G hr => ?_
  refine bIf (k := false) (r1 := [.d (eOff o), .u]) (tTo (tW (wOr (k := false) (tTo (tNot' (tV (dCall (c_is_tuple_of E (xs := [eORu o.1, eORu o.2]) rfl) (hr.mono (by decide)) (aC (dv 0) (aC di aN))))) rfl) fun _ => wOr1 (k := false) (tTo (tNot' (tV (dAll (bs := [true, true]) E.b_all (aC (r1 := [.d (eOff o), .u]) (dLc (own := [("rule", 1)]) (iT (xs := [eORu o.1, eORu o.2]) (dv 0)) (noM rfl)
    (.take (r1 := [.d (eOff o), .u]) (cTake (y := .bool true) (rc := [.d (eOff o), .d (eORu o.1)]) (fun _ _ _ _ _ _ => gNm 1 nd) (by decide) (fun _ _ _ _ _ _ => ?_)) (.take (r1 := [.d (eOff o), .u]) (cTake (y := .bool true) (rc := [.d (eOff o), .d (eORu o.2)]) (fun _ _ _ _ _ _ => gNm 1 nd) (by decide) (fun _ _ _ _ _ _ => ?_)) .nil)) (show 2 ≤ sizeLine by decide) nd (by rfl)) aN)))) rfl))) rfl)
    (fun h => absurd h (by decide)) fun _ => br0 (b1 (sRet' (dOr (dNotN (x := eORu o.1) (dI (dv 0) di)) fun _ => dOne (dNotN (x := eORu o.2) (dI (dv 0) di))) ?_))
  · cases ho : o.1 with
    | none => exact dTo (dOr (dIsN (x := .none) (dv 1)) (fun h => absurd h (by decide)) (l := true)) rfl
    | some u => exact dTo (dOr (dIsN (x := eRu u) (dv 1)) fun _ => dOne (dCall (c_is_rule E (h.a u ho)) hr (aC (dv 1) aN))) rfl
  · cases ho : o.2 with
    | none => exact dTo (dOr (dIsN (x := .none) (dv 1)) (fun h => absurd h (by decide)) (l := true)) rfl
    | some u => exact dTo (dOr (dIsN (x := eRu u) (dv 1)) fun _ => dOne (dCall (c_is_rule E (h.b u ho)) hr (aC (dv 1) aN))) rfl
  · rw [isN_O, isN_O]
    congr 1
    rcases h.s with z | z
    · cases ho : o.1 with
      | none => exact absurd ho z
      | some u => rfl
    · cases ho : o.2 with
      | none => exact absurd ho z
      | some u => exact Bool.or_true _
theorem sc_is_shop : Sc ["value"] ["value"] 38 := ⟨rfl, rfl, rfl, by decide +kernel, rfl, by decide +kernel, by decide +kernel⟩
structure SOk (s : Shop) : Prop where
  a : VRo s.1
  b : VRo s.2.1
theorem c_is_shop (E : En K mg) {s : Shop} (h : SOk s) : Cal P w K mg base 4 "is_shop" [eShop s] (.bool true) := by
  obtain ⟨f, fd, F, hm⟩ := E.f_is_shop
  refine cal_of (bg := []) F sc_is_shop hm (fun _ _ _ _ _ _ us hl => match us, hl with | [_], _ => rfl) rfl (by decide) fun f cdv A outer s' H Ex G hr => ?_
  exact b1 (sRet' (dAnd (dCall (c_is_tuple_of E (xs := [eRo s.1, eRo s.2.1, .bool s.2.2]) rfl) (hr.mono (by decide)) (aC (dv 0) (aC di aN))) fun _ => dAnd (dCall (c_is_rounding E h.a) hr (aC (dI (dv 0) di) aN)) fun _ => dAnd (dCall (c_is_rounding E h.b) hr (aC (dI (dv 0) di) aN)) fun _ =>
    dOne (dIsi (x := .bool s.2.2) (T := "bool") (res := true) E.b_isinstance E.b_bool (by decide +kernel) (dI (dv 0) di) (show kitB "bool" "bool" = some true by decide +kernel))) rfl)
structure WOk (W : Wd) : Prop where
  o : ∀ o ∈ W.offices, OOk o
  s : ∀ s ∈ W.shops, SOk s
  o1 : W.offices.length ≤ 3
  o2 : W.offices ≠ []
  s1 : W.shops.length ≤ 2
theorem all_true {α : Type} (l : List α) : (l.map fun _ => true).all id = true := by
  induction l with
  | nil => rfl
  | cons x l ih => rw [List.map_cons, List.all_cons, ih]; rfl
theorem lay_ORu (o : Option Ru) : (eORu o).canLay0 = true ∧ (eORu o).depth ≤ 1 := by
  cases o with
  | none => simp [eORu, PyData.canLay0, PyData.depth]
  | some u =>
    have : PyData.strOk (ms u.m) = true := by cases u.m <;> decide +kernel
    simp [eORu, eRu, PyData.canLay0, PyData.canLayAll0, PyData.depth, PyData.depthAll, this]
theorem lay_Offs : ∀ l : List Office, PyData.canLayAll0 (l.map eOff) = true ∧ PyData.depthAll (l.map eOff) ≤ 3
  | [] => by simp [PyData.canLayAll0, PyData.depthAll]
  | o :: l => by
    obtain ⟨h1, h2⟩ := lay_Offs l
    have a := lay_ORu o.1
    have b := lay_ORu o.2
    refine ⟨by simp [eOff, PyData.canLay0, PyData.canLayAll0, a.1, b.1, h1], ?_⟩
    simp only [List.map_cons, PyData.depthAll, eOff, PyData.depth]
    omega
theorem lay_Shops : ∀ l : List Shop, PyData.canLayAll0 (l.map eShop) = true ∧ PyData.depthAll (l.map eShop) ≤ 3
  | [] => by simp [PyData.canLayAll0, PyData.depthAll]
  | s :: l => by
    obtain ⟨h1, h2⟩ := lay_Shops l
    have a : PyData.strOk (ms s.1.m) = true := by cases s.1.m <;> decide +kernel
    have b : PyData.strOk (ms s.2.1.m) = true := by cases s.2.1.m <;> decide +kernel
    refine ⟨by simp [eShop, eRo, PyData.canLay0, PyData.canLayAll0, a, b, h1], ?_⟩
    simp only [List.map_cons, PyData.depthAll, eShop, eRo, PyData.depth]
    omega
theorem sh_World (W : Wd) : SeqAt.shaped (eW W) = true := by
  have a := lay_Offs W.offices
  have b := lay_Shops W.shops
  have : (eW W).depth ≤ 64 := by
    simp only [eW, PyData.depth, PyData.depthAll]
    omega
  simp [SeqAt.shaped, this]
  simp [eW, PyData.canLay0, PyData.canLayAll0, a.1, b.1]
theorem sc_is_world : Sc ["value", "office", "shop"] ["value"] 39 := ⟨rfl, rfl, rfl, by decide +kernel, rfl, by decide +kernel, by decide +kernel⟩
theorem c_is_world (E : En K mg) {W : Wd} (h : WOk W) : Cal P w K mg base 6 "is_world" [eW W] (.bool true) := by
  obtain ⟨f, fd, F, hm⟩ := E.f_is_world
  have nd := sc_is_world.nd
  have sz := sizeLine_eq
  obtain ⟨h1, h2, h3, h4, h5⟩ := h
  refine cal_of (bg := []) F sc_is_world hm (fun _ _ _ _ _ _ us hl => match us, hl with | [_], _ => rfl) rfl (by decide) fun f cdv A outer s' H Ex G hr => ?_
  refine bIf (k := false) (tTo (tW (wOr (tNot' (tV (dCall (c_is_tuple_of E (xs := [.tuple (W.offices.map eOff), .tuple (W.shops.map eShop)]) rfl) (hr.mono (by decide)) (aC (dv 0) (aC di aN))))) fun _ => wOr (tNot' (tV (dIsi (x := .tuple (W.offices.map eOff)) (T := "tuple") (res := true) E.b_isinstance E.b_tuple (by decide +kernel) (dI (dv 0) di) (show kitB "tuple" "tuple" = some true by decide +kernel)))) fun _ =>
    wOr1 (tNot' (tV (dIsi (x := .tuple (W.shops.map eShop)) (T := "tuple") (res := true) E.b_isinstance E.b_tuple (by decide +kernel) (dI (dv 0) di) (show kitB "tuple" "tuple" = some true by decide +kernel)))))) rfl) (fun h => absurd h (by decide)) fun _ => br0 ?_
  have e0 : PyData.eqv (eW W) (.tuple [.tuple [], .tuple []]) = false := by
    cases ho : W.offices with
    | nil => exact absurd ho h4
    | cons o l => simp [eW, ho, PyData.eqv, PyData.eqvAll]
  refine bIf (k := false) (tTo (tW (wOr (tGt (dLen (xs := W.offices.map eOff) E.b_len (.inr rfl) (aC (dI (dv 0) di) aN)) di) fun _ => wOr (tGt (dLen (xs := W.shops.map eShop) E.b_len (.inr rfl) (aC (dI (dv 0) di) aN)) di) fun _ => wOr1 (tEq hr.units (sh_World W) (by decide +kernel) e0 (dv 0) (dr (dTup2 (aC dTup0 (aC dTup0 aN))))))) ?_)
    (fun h => absurd h (by decide)) fun _ => br0 ?_
  · rw [List.length_map, List.length_map, decide_eq_false (by omega), decide_eq_false (by omega)]
    rfl
  refine b1 (sRet' (r1 := [.d (eW W), .u, .u]) (dAnd (r1 := [.d (eW W), .u, .u]) (dAll (bs := W.offices.map fun _ => true) E.b_all (aC (r1 := [.d (eW W), .u, .u]) (dTo (dLc (own := [("office", 1)]) (iT (xs := W.offices.map eOff) (dI (dv 0) di)) (noM rfl)
      (comp_fn eOff (fun _ => .bool true) _ fun o ho => cTake (fun _ _ _ _ _ _ => gNm 1 nd) (by decide) (fun _ _ _ _ _ _ => dCall (c_is_office E (h1 o ho)) hr (aC (dv 1) aN))) (by rw [List.length_map]; omega) nd (by rfl)) (by rw [List.map_map]; rfl)) aN)) fun _ =>
    dOne (dAll (bs := W.shops.map fun _ => true) E.b_all (aC (r1 := [.d (eW W), .u, .u]) (dTo (dLc (own := [("shop", 2)]) (iT (xs := W.shops.map eShop) (dI (dv 0) di)) (noM rfl)
      (comp_fn eShop (fun _ => .bool true) _ fun s hs => cTake (fun _ _ _ _ _ _ => gNm 2 nd) (by decide) (fun _ _ _ _ _ _ => dCall (c_is_shop E (h2 s hs)) (hr.mono (by decide)) (aC (dv 2) aN))) (by rw [List.length_map]; omega) nd (by rfl)) (by rw [List.map_map]; rfl)) aN))) ?_)
  rw [all_true, all_true]
  rfl
end Kx
end Sec_P11
section Sec_P12
set_option maxRecDepth 100000
/-! The checks: deeds, scripts, purses; cheaper, turns. -/
namespace Kx
open PySem PySem.Spec PyProof.Rows L2 DL AM
variable {P : Program} {w : World} {K : PySem.W.Frag} {mg : Str → Option Value} {base : Heap}
theorem sc_is_amount : Sc ["value"] ["value"] 40 := ⟨rfl, rfl, rfl, by decide +kernel, rfl, by decide +kernel, by decide +kernel⟩
theorem c_is_amount (E : En K mg) {i : Int} (h : Am i) : Cal P w K mg base 3 "is_amount" [.int i] (.bool true) := by
  obtain ⟨f, fd, F, hm⟩ := E.f_is_amount
  refine cal_of (bg := []) F sc_is_amount hm (fun _ _ _ _ _ _ us hl => match us, hl with | [_], _ => rfl) rfl (by decide) fun f cdv A outer s' H Ex G hr => ?_
  exact b1 (sRet (dCall (c_is_from E (i := i) (lo := 1) (hi := 12) ⟨h.lo, h.hi⟩) hr (aC (dv 0) (aC di (aC (dg E.i_MOST) aN)))))
theorem sc_does_this : Sc ["office", "way"] ["office", "way"] 41 := ⟨rfl, rfl, rfl, by decide +kernel, rfl, by decide +kernel, by decide +kernel⟩
theorem c_does_this (E : En K mg) {o : Office} {bk : Bool} (h : (if bk = true then o.2 else o.1) ≠ none) : Cal P w K mg base 1 "does_this" [eOff o, .str (wayS bk)] (.bool true) := by
  obtain ⟨f, fd, F, hm⟩ := E.f_does_this
  refine cal_of (bg := []) F sc_does_this hm (fun _ _ _ _ _ _ us hl => match us, hl with | [_, _], _ => rfl) rfl (by decide) fun f cdv A outer s' H Ex G hr => ?_
  cases bk with
  | false =>
    refine b1 (sRet' (dNotN (x := eORu o.1) (dIxT (xs := [eORu o.1, eORu o.2]) (i := 0) rfl (dv 0) (dIf' (x := .int 0) (tEqS (dv 1) (dg E.s_INTO)) (fun h => di) (fun h => absurd h (by decide))))) ?_)
    rw [isN_O]
    cases ho : o.1 with
    | none => exact absurd ho h
    | some u => rfl
  | true =>
    refine b1 (sRet' (dNotN (x := eORu o.2) (dIxT (xs := [eORu o.1, eORu o.2]) (i := 1) rfl (dv 0) (dIf' (x := .int 1) (tEqS (dv 1) (dg E.s_INTO)) (fun h => absurd h (by decide)) (fun h => di)))) ?_)
    rw [isN_O]
    cases ho : o.2 with
    | none => exact absurd ho h
    | some u => rfl
theorem sc_is_exchange : Sc ["world", "value"] ["world", "value"] 42 := ⟨rfl, rfl, rfl, by decide +kernel, rfl, by decide +kernel, by decide +kernel⟩
theorem c_is_exchange (E : En K mg) {W : Wd} {bk : Bool} {i : Nat} {n : Int} (h : DOk W (.ex bk i n)) : Cal P w K mg base 4 "is_exchange" [eW W, eD (.ex bk i n)] (.bool true) := by
  obtain ⟨f, fd, F, hm⟩ := E.f_is_exchange
  obtain ⟨⟨o, h1, h2⟩, h3, h4⟩ := h
  have hlt := (List.getElem?_eq_some_iff.mp h1).1
  have hat : (W.offices.map eOff)[i]? = some (eOff o) := by rw [List.getElem?_map, h1]; rfl
  refine cal_of (bg := []) F sc_is_exchange hm (fun _ _ _ _ _ _ us hl => match us, hl with | [_, _], _ => rfl) rfl (by decide) fun f cdv A outer s' H Ex G hr => ?_
  refine bIf (k := false) (tTo (tW (wOr (tNot' (tV (dCall (c_is_tuple_of E (xs := [.str (wayS bk), .int i, .int n]) rfl) (hr.mono (by decide)) (aC (dv 1) (aC di aN))))) fun _ => wOr (tNot' (tV (dCall (c_is_from E (i := (i : Int)) (lo := 0) (hi := ((W.offices.map eOff).length : Int) - 1) (by rw [List.length_map]; omega)) (hr.mono (by decide))
      (aC (dI (dv 1) di) (aC di (aC (dSub (dLen (xs := W.offices.map eOff) E.b_len (.inr rfl) (aC (dI (dv 0) di) aN)) di) aN)))))) fun _ => wOr1 (tNot' (tV (dCall (c_is_amount E h4) hr (aC (dI (dv 1) di) aN)))))) rfl) (fun h => absurd h (by decide)) fun _ => br0 ?_
  exact b1 (sRet (dCall (c_does_this E (o := o) (bk := bk) (by rw [h2]; exact nofun)) (hr.mono (by decide)) (aC (dIxT (xs := W.offices.map eOff) (atI_nat hat) (dI (dv 0) di) (dI (dv 1) di)) (aC (dI (dv 1) di) aN))))
theorem sh_home (b : Bool) : SeqAt.shaped (.str (homeS b)) = true := by cases b <;> decide +kernel
theorem home_any (b : Bool) : ([PyData.str "far", .str "home"].any fun z => PyData.eqv z (.str (homeS b))) = true := by cases b <;> decide +kernel
theorem sc_is_purchase : Sc ["world", "value"] ["world", "value"] 43 := ⟨rfl, rfl, rfl, by decide +kernel, rfl, by decide +kernel, by decide +kernel⟩
theorem c_is_purchase (E : En K mg) {W : Wd} {d : Deed} (h : DOk W d) (hx : ∀ bk i n, d ≠ .ex bk i n) : Cal P w K mg base 4 "is_purchase" [eW W, eD d] (.bool true) := by
  obtain ⟨f, fd, F, hm⟩ := E.f_is_purchase
  refine cal_of (bg := []) F sc_is_purchase hm (fun _ _ _ _ _ _ us hl => match us, hl with | [_, _], _ => rfl) rfl (by decide) fun f cdv A outer s' H Ex G hr => ?_
  cases d with
  | ex bk i n => exact absurd rfl (hx bk i n)
  | over i p m =>
    obtain ⟨h1, h2, h3, h4⟩ := h
    have hlt := (List.getElem?_eq_some_iff.mp h1).1
    refine bIf (k := false) (tTo (tW (wOr (tNot' (tV (dCall (c_is_tuple_of E (xs := [.str "over", .int i, .int p, .int m]) rfl) (hr.mono (by decide)) (aC (dv 1) (aC di aN))))) fun _ => wOr (tNot' (tV (dCall (c_is_from E (i := (i : Int)) (lo := 0) (hi := ((W.shops.map eShop).length : Int) - 1) (by rw [List.length_map]; omega)) (hr.mono (by decide))
        (aC (dI (dv 1) di) (aC di (aC (dSub (dLen (xs := W.shops.map eShop) E.b_len (.inr rfl) (aC (dI (dv 0) di) aN)) di) aN)))))) fun _ => wOr1 (tNot' (tV (dCall (c_is_amount E h3) hr (aC (dI (dv 1) di) aN)))))) rfl) (fun h => absurd h (by decide)) fun _ => br0 ?_
    exact bIf (tEqS (dI (dv 1) di) (dg E.s_OVER)) (fun _ => brR (b1 (sRet (dCall (c_is_amount E h4) hr (aC (dI (dv 1) di) aN))))) fun h => absurd h (by decide)
  | buy i p home =>
    obtain ⟨h1, h2, h3⟩ := h
    have hlt := (List.getElem?_eq_some_iff.mp h1).1
    refine bIf (k := false) (tTo (tW (wOr (tNot' (tV (dCall (c_is_tuple_of E (xs := [.str "buy", .int i, .int p, .str (homeS home)]) rfl) (hr.mono (by decide)) (aC (dv 1) (aC di aN))))) fun _ => wOr (tNot' (tV (dCall (c_is_from E (i := (i : Int)) (lo := 0) (hi := ((W.shops.map eShop).length : Int) - 1) (by rw [List.length_map]; omega)) (hr.mono (by decide))
        (aC (dI (dv 1) di) (aC di (aC (dSub (dLen (xs := W.shops.map eShop) E.b_len (.inr rfl) (aC (dI (dv 0) di) aN)) di) aN)))))) fun _ => wOr1 (tNot' (tV (dCall (c_is_amount E h3) hr (aC (dI (dv 1) di) aN)))))) rfl) (fun h => absurd h (by decide)) fun _ => br0 ?_
    refine bIf (tEqS (dI (dv 1) di) (dg E.s_OVER)) (fun h => absurd h (by decide)) fun _ => br0 ?_
    exact b1 (sRet' (dAnd (dCall (c_is_word E (sh_home home) (by decide +kernel) (home_any home)) (hr.mono (by decide)) (aC (dI (dv 1) di) (aC (dTup2 (aC (dg E.s_FAR) (aC (dg E.s_HOME) aN))) aN))) fun _ => dOne (dOr (dEqS (p := "buy") (dI (dv 1) di) (dg E.s_BUY)) (fun h => absurd h (by decide)) (l := true))) rfl)
  | ret i p home =>
    obtain ⟨h1, h2, h3, h4⟩ := h
    have hlt := (List.getElem?_eq_some_iff.mp h1).1
    have hat := atI_nat (shop_at h1)
    refine bIf (k := false) (tTo (tW (wOr (tNot' (tV (dCall (c_is_tuple_of E (xs := [.str "return", .int i, .int p, .str (homeS home)]) rfl) (hr.mono (by decide)) (aC (dv 1) (aC di aN))))) fun _ => wOr (tNot' (tV (dCall (c_is_from E (i := (i : Int)) (lo := 0) (hi := ((W.shops.map eShop).length : Int) - 1) (by rw [List.length_map]; omega)) (hr.mono (by decide))
        (aC (dI (dv 1) di) (aC di (aC (dSub (dLen (xs := W.shops.map eShop) E.b_len (.inr rfl) (aC (dI (dv 0) di) aN)) di) aN)))))) fun _ => wOr1 (tNot' (tV (dCall (c_is_amount E h3) hr (aC (dI (dv 1) di) aN)))))) rfl) (fun h => absurd h (by decide)) fun _ => br0 ?_
    refine bIf (tEqS (dI (dv 1) di) (dg E.s_OVER)) (fun h => absurd h (by decide)) fun _ => br0 ?_
    exact b1 (sRet' (dAnd (dCall (c_is_word E (sh_home home) (by decide +kernel) (home_any home)) (hr.mono (by decide)) (aC (dI (dv 1) di) (aC (dTup2 (aC (dg E.s_FAR) (aC (dg E.s_HOME) aN))) aN))) fun _ => dOne (dOr (dEqS (p := "return") (dI (dv 1) di) (dg E.s_BUY)) (fun _ => dOne (dIxT (xs := [eRo (W.shop i).1, eRo (W.shop i).2.1, .bool (W.shop i).2.2]) (x := .bool (W.shop i).2.2) (i := 2) rfl (dIxT (xs := W.shops.map eShop) hat (dI (dv 0) di) (dI (dv 1) di)) di)))) (by rw [h4]; rfl))
theorem sc_is_deed : Sc ["world", "value"] ["world", "value"] 44 := ⟨rfl, rfl, rfl, by decide +kernel, rfl, by decide +kernel, by decide +kernel⟩
theorem deed_tup (d : Deed) : ∃ (k : Str) (x : PyData) (xs : List PyData), eD d = .tuple (.str k :: x :: xs) ∧ SeqAt.shaped (eD d) = true ∧ SeqAt.shaped (.str k) = true := by
  cases d with
  | ex bk i n =>
    have : PyData.strOk (wayS bk) = true := by cases bk <;> decide +kernel
    exact ⟨_, _, _, rfl, by simp [eD, SeqAt.shaped, PyData.canLay0, PyData.canLayAll0, PyData.depth, PyData.depthAll, this], sh_way bk⟩
  | over i p m =>
    have : PyData.strOk "over" = true := by decide +kernel
    exact ⟨_, _, _, rfl, by simp [eD, SeqAt.shaped, PyData.canLay0, PyData.canLayAll0, PyData.depth, PyData.depthAll, this], by decide +kernel⟩
  | buy i p home =>
    have : PyData.strOk "buy" = true := by decide +kernel
    have h2 : PyData.strOk (homeS home) = true := by cases home <;> decide +kernel
    exact ⟨_, _, _, rfl, by simp [eD, SeqAt.shaped, PyData.canLay0, PyData.canLayAll0, PyData.depth, PyData.depthAll, this, h2], by decide +kernel⟩
  | ret i p home =>
    have : PyData.strOk "return" = true := by decide +kernel
    have h2 : PyData.strOk (homeS home) = true := by cases home <;> decide +kernel
    exact ⟨_, _, _, rfl, by simp [eD, SeqAt.shaped, PyData.canLay0, PyData.canLayAll0, PyData.depth, PyData.depthAll, this, h2], by decide +kernel⟩
theorem c_is_deed (E : En K mg) {W : Wd} {d : Deed} (h : DOk W d) : Cal P w K mg base 5 "is_deed" [eW W, eD d] (.bool true) := by
  obtain ⟨f, fd, F, hm⟩ := E.f_is_deed
  obtain ⟨k, x, xs, e, sh, sk⟩ := deed_tup d
  have e0 : PyData.eqv (eD d) (.tuple []) = false := by rw [e]; simp [PyData.eqv, PyData.eqvAll]
  refine cal_of (bg := []) F sc_is_deed hm (fun _ _ _ _ _ _ us hl => match us, hl with | [_, _], _ => rfl) rfl (by decide) fun f cdv A outer s' H Ex G hr => ?_
  refine bIf (k := false) (tTo (tW (wOr (tNot' (tV (dIsi (x := eD d) (T := "tuple") (res := true) E.b_isinstance E.b_tuple (by decide +kernel) (dv 1) (by rw [e]; show kitB "tuple" "tuple" = some true; decide +kernel)))) fun _ => wOr (tEq hr.units sh (by decide +kernel) e0 (dv 1) (dr dTup0)) fun _ =>
    wOr1 (tNot' (tV (dIsi (x := .str k) (T := "str") (res := true) E.b_isinstance E.b_str (by decide +kernel) (dIxT (xs := .str k :: x :: xs) (x := .str k) (i := 0) (atI_nat (i := 0) rfl) (dTo (dv 1) e) di) (show kitB "str" "str" = some true by decide +kernel)))))) rfl) (fun h => absurd h (by decide)) fun _ => br0 ?_
  cases d with
  | ex bk i n =>
    exact bIf (tIn (u65 hr) (.inr rfl) (sh_way bk) (by decide +kernel) way_in (dI (dv 1) di) (dTup2 (aC (dg E.s_INTO) (aC (dg E.s_BACK) aN)))) (fun _ => brR (b1 (sRet (dCall (c_is_exchange E h) hr (aC (dv 0) (aC (dv 1) aN)))))) fun h => absurd h (by decide)
  | over i p m =>
    exact bIf (tIn (x := .str "over") (u65 hr) (.inr rfl) (by decide +kernel) (by decide +kernel) rfl (dI (dv 1) di) (dTup2 (aC (dg E.s_INTO) (aC (dg E.s_BACK) aN)))) (fun h => absurd h (by decide)) fun _ => br0 (b1 (sRet' (dAnd (dIn (x := .str "over") (k := true) (u65 hr) (.inr rfl) (by decide +kernel) (by decide +kernel) rfl (dI (dv 1) di) (dTup3 (aC (dg E.s_BUY) (aC (dg E.s_OVER) (aC (dg E.s_RETURN) aN)))))
      fun _ => dOne (dCall (c_is_purchase E h nofun) hr (aC (dv 0) (aC (dv 1) aN)))) rfl))
  | buy i p home =>
    exact bIf (tIn (x := .str "buy") (u65 hr) (.inr rfl) (by decide +kernel) (by decide +kernel) rfl (dI (dv 1) di) (dTup2 (aC (dg E.s_INTO) (aC (dg E.s_BACK) aN)))) (fun h => absurd h (by decide)) fun _ => br0 (b1 (sRet' (dAnd (dIn (x := .str "buy") (k := true) (u65 hr) (.inr rfl) (by decide +kernel) (by decide +kernel) rfl (dI (dv 1) di) (dTup3 (aC (dg E.s_BUY) (aC (dg E.s_OVER) (aC (dg E.s_RETURN) aN)))))
      fun _ => dOne (dCall (c_is_purchase E h nofun) hr (aC (dv 0) (aC (dv 1) aN)))) rfl))
  | ret i p home =>
    exact bIf (tIn (x := .str "return") (u65 hr) (.inr rfl) (by decide +kernel) (by decide +kernel) rfl (dI (dv 1) di) (dTup2 (aC (dg E.s_INTO) (aC (dg E.s_BACK) aN)))) (fun h => absurd h (by decide)) fun _ => br0 (b1 (sRet' (dAnd (dIn (x := .str "return") (k := true) (u65 hr) (.inr rfl) (by decide +kernel) (by decide +kernel) rfl (dI (dv 1) di) (dTup3 (aC (dg E.s_BUY) (aC (dg E.s_OVER) (aC (dg E.s_RETURN) aN)))))
      fun _ => dOne (dCall (c_is_purchase E h nofun) hr (aC (dv 0) (aC (dv 1) aN)))) rfl))
theorem sc_are_deeds : Sc ["world", "value", "deed"] ["world", "value"] 45 := ⟨rfl, rfl, rfl, by decide +kernel, rfl, by decide +kernel, by decide +kernel⟩
theorem c_are_deeds (E : En K mg) {W : Wd} {ds : List Deed} (h : ScOk W ds) : Cal P w K mg base 6 "are_deeds" [eW W, eDs ds] (.bool true) := by
  obtain ⟨f, fd, F, hm⟩ := E.f_are_deeds
  have nd := sc_are_deeds.nd
  have sz := sizeLine_eq
  refine cal_of (bg := []) F sc_are_deeds hm (fun _ _ _ _ _ _ us hl => match us, hl with | [_, _], _ => rfl) rfl (by decide) fun f cdv A outer s' H Ex G hr => ?_
  refine b1 (sRet' (r1 := [.d (eW W), .d (eDs ds), .u]) (dAnd (dIsi (x := eDs ds) (T := "tuple") (res := true) E.b_isinstance E.b_tuple (by decide +kernel) (dv 1) (show kitB "tuple" "tuple" = some true by decide +kernel)) fun _ => dOne (dAll (bs := ds.map fun _ => true) E.b_all (aC (r1 := [.d (eW W), .d (eDs ds), .u])
    (dTo (dLc (own := [("deed", 2)]) (iT (xs := ds.map eD) (dv 1)) (noM rfl) (comp_fn eD (fun _ => .bool true) _ fun d hd => cTake (fun _ _ _ _ _ _ => gNm 2 nd) (by decide) (fun _ _ _ _ _ _ => dCall (c_is_deed E (h.d d hd)) hr (aC (dv 0) (aC (dv 2) aN)))) (by have := h.n; rw [List.length_map]; omega) nd (by rfl)) (by rw [List.map_map]; rfl)) aN))) ?_)
  rw [all_true]
  rfl
theorem sc_is_script_of : Sc ["world", "value"] ["world", "value"] 46 := ⟨rfl, rfl, rfl, by decide +kernel, rfl, by decide +kernel, by decide +kernel⟩
theorem c_is_script_of (E : En K mg) {W : Wd} {ds : List Deed} (h : ScOk W ds) : Cal P w K mg base 7 "is_script_of" [eW W, eDs ds] (.bool true) := by
  obtain ⟨f, fd, F, hm⟩ := E.f_is_script_of
  refine cal_of (bg := []) F sc_is_script_of hm (fun _ _ _ _ _ _ us hl => match us, hl with | [_, _], _ => rfl) rfl (by decide) fun f cdv A outer s' H Ex G hr => ?_
  exact b1 (sRet' (dAnd (dCall (c_are_deeds E h) hr (aC (dv 0) (aC (dv 1) aN))) fun _ => dOne (dLe (dLen (xs := ds.map eD) E.b_len (.inr rfl) (aC (dv 1) aN)) (dg E.i_MOST_DEEDS))) (by rw [List.length_map, decide_eq_true (by have := h.n; omega)]; rfl))
theorem sc_need_world : Sc ["value"] ["value"] 47 := ⟨rfl, rfl, rfl, by decide +kernel, rfl, by decide +kernel, by decide +kernel⟩
theorem c_need_world (E : En K mg) {W : Wd} (h : WOk W) : Cal P w K mg base 7 "need_world" [eW W] .none := by
  obtain ⟨f, fd, F, hm⟩ := E.f_need_world
  refine cal_none (r' := [.d (eW W)]) F sc_need_world hm (fun _ _ _ _ _ _ us hl => match us, hl with | [_], _ => rfl) rfl (by decide) fun f cdv A outer s' H Ex G hr => ?_
  exact bIf (k := false) (tTo (tNot' (tV (dCall (c_is_world E h) hr (aC (dv 0) aN)))) rfl) (fun h => absurd h (by decide)) fun _ => br0 bN
theorem sc_need_script : Sc ["world", "value"] ["world", "value"] 48 := ⟨rfl, rfl, rfl, by decide +kernel, rfl, by decide +kernel, by decide +kernel⟩
theorem c_need_script (E : En K mg) {W : Wd} {ds : List Deed} (h : ScOk W ds) : Cal P w K mg base 8 "need_script" [eW W, eDs ds] .none := by
  obtain ⟨f, fd, F, hm⟩ := E.f_need_script
  refine cal_none (r' := [.d (eW W), .d (eDs ds)]) F sc_need_script hm (fun _ _ _ _ _ _ us hl => match us, hl with | [_, _], _ => rfl) rfl (by decide) fun f cdv A outer s' H Ex G hr => ?_
  exact bIf (k := false) (tTo (tNot' (tV (dCall (c_is_script_of E h) hr (aC (dv 0) (aC (dv 1) aN))))) rfl) (fun h => absurd h (by decide)) fun _ => br0 bN
theorem sc_need_purse : Sc ["value", "part"] ["value"] 49 := ⟨rfl, rfl, rfl, by decide +kernel, rfl, by decide +kernel, by decide +kernel⟩
theorem c_need_purse (E : En K mg) {p : Int × Int} (h : 0 ≤ p.1 ∧ 0 ≤ p.2) : Cal P w K mg base 2 "need_purse" [eR p] .none := by
  obtain ⟨f, fd, F, hm⟩ := E.f_need_purse
  have nd := sc_need_purse.nd
  refine cal_none (r' := [.d (eR p), .u]) F sc_need_purse hm (fun _ _ _ _ _ _ us hl => match us, hl with | [_], _ => rfl) rfl (by decide) fun f cdv A outer s' H Ex G hr => ?_
  exact bIf (k := false) (r1 := [.d (eR p), .u]) (tTo (tW (wOr (k := false) (tTo (tNot' (tV (dCall (c_is_tuple_of E (xs := [.int p.1, .int p.2]) rfl) (hr.mono (by decide)) (aC (dv 0) (aC di aN))))) rfl) fun _ => wOr1 (k := false) (tTo (tNot' (tV (dAll (bs := [true, true]) E.b_all (aC (r1 := [.d (eR p), .u]) (dLc (own := [("part", 1)]) (iT (xs := [.int p.1, .int p.2]) (dv 0)) (noM rfl)
    (.take (r1 := [.d (eR p), .u]) (cTake (y := .bool true) (rc := [.d (eR p), .d (.int p.1)]) (fun _ _ _ _ _ _ => gNm 1 nd) (by decide) (fun _ _ _ _ _ _ => dTo (dAnd (dCall (c_is_number E) hr (aC (dv 1) aN)) fun _ => dOne (dGe (dv 1) di)) (by rw [decide_eq_true h.1]; rfl)))
    (.take (r1 := [.d (eR p), .u]) (cTake (y := .bool true) (rc := [.d (eR p), .d (.int p.2)]) (fun _ _ _ _ _ _ => gNm 1 nd) (by decide) (fun _ _ _ _ _ _ => dTo (dAnd (dCall (c_is_number E) hr (aC (dv 1) aN)) fun _ => dOne (dGe (dv 1) di)) (by rw [decide_eq_true h.2]; rfl))) .nil)) (show 2 ≤ sizeLine by decide) nd (by rfl)) aN)))) rfl))) rfl)
    (fun h => absurd h (by decide)) fun _ => br0 bN
theorem sc_need_both : Sc ["world", "one", "other", "purse"] ["world", "one", "other", "purse"] 78 := ⟨rfl, rfl, rfl, by decide +kernel, rfl, by decide +kernel, by decide +kernel⟩
theorem c_need_both (E : En K mg) {W : Wd} {one other : List Deed} {p : Int × Int} (hW : WOk W) (h1 : ScOk W one) (h2 : ScOk W other) (hp : 0 ≤ p.1 ∧ 0 ≤ p.2) : Cal P w K mg base 9 "need_both" [eW W, eDs one, eDs other, eR p] .none := by
  obtain ⟨f, fd, F, hm⟩ := E.f_need_both
  refine cal_none (r' := [.d (eW W), .d (eDs one), .d (eDs other), .d (eR p)]) F sc_need_both hm (fun _ _ _ _ _ _ us hl => match us, hl with | [_, _, _, _], _ => rfl) rfl (by decide) fun f cdv A outer s' H Ex G hr => ?_
  exact bC (sExpr (dCall (c_need_world E hW) (hr.mono (by decide)) (aC (dv 0) aN))) (bC (sExpr (dCall (c_need_script E h1) (hr.mono (by decide)) (aC (dv 0) (aC (dv 1) aN)))) (bC (sExpr (dCall (c_need_script E h2) (hr.mono (by decide)) (aC (dv 0) (aC (dv 2) aN)))) (b1 (sExpr (dCall (c_need_purse E hp) (hr.mono (by decide)) (aC (dv 3) aN))))))
theorem sc_cheaper : Sc ["world", "one", "other", "purse"] ["world", "one", "other", "purse"] 79 := ⟨rfl, rfl, rfl, by decide +kernel, rfl, by decide +kernel, by decide +kernel⟩
theorem c_cheaper (E : En K mg) {W : Wd} {one other : List Deed} {p : Int × Int} (hW : WOk W) (h1 : ScOk W one) (h2 : ScOk W other) (hp : 0 ≤ p.1 ∧ 0 ≤ p.2) (hS : Few1 (scriptEdges W (one ++ other))) :
    Cal P w K mg base 10 "cheaper" [eW W, eDs one, eDs other, eR p] (.list ((cheaperRows W one other p).map (eRow eWord))) := by
  obtain ⟨f, fd, F, hm⟩ := E.f_cheaper
  refine cal_of (bg := []) F sc_cheaper hm (fun _ _ _ _ _ _ us hl => match us, hl with | [_, _, _, _], _ => rfl) rfl (by decide) fun f cdv A outer s' H Ex G hr => ?_
  exact bC (sExpr (dCall (c_need_both E hW h1 h2 hp) hr (aC (dv 0) (aC (dv 1) (aC (dv 2) (aC (dv 3) aN)))))) (b1 (sRet (dCall (c_cheaper_rows E h1 h2 hS) (hr.mono (by decide)) (aC (dv 0) (aC (dv 1) (aC (dv 2) (aC (dv 3) aN)))))))
theorem sc_turns : Sc ["world", "one", "other", "purse", "rows", "span", "word"] ["world", "one", "other", "purse"] 80 := ⟨rfl, rfl, rfl, by decide +kernel, rfl, by decide +kernel, by decide +kernel⟩
theorem c_turns (E : En K mg) {W : Wd} {one other : List Deed} {p : Int × Int} (hW : WOk W) (h1 : ScOk W one) (h2 : ScOk W other) (hp : 0 ≤ p.1 ∧ 0 ≤ p.2) (hS : Few1 (scriptEdges W (one ++ other))) (hl : (cheaperRows W one other p).length ≤ 1000000) :
    Cal P w K mg base 10 "turns" [eW W, eDs one, eDs other, eR p] (.list ((turns (cheaperRows W one other p)).map eR)) := by
  obtain ⟨f, fd, F, hm⟩ := E.f_turns
  have nd := sc_turns.nd
  have sz := sizeLine_eq
  have rf := rows_few (p := p) h1 h2 hS
  have cr := c_cheaper_rows (P := P) (w := w) (base := base) (p := p) E h1 h2 hS
  unfold turns
  generalize cheaperRows W one other p = rows at rf cr hl
  refine cal_of (bg := []) F sc_turns hm (fun _ _ _ _ _ _ us hl => match us, hl with | [_, _, _, _], _ => rfl) rfl (by decide) fun f cdv A outer s' H Ex G hr => ?_
  refine bC (sExpr (dCall (c_need_both E hW h1 h2 hp) hr (aC (dv 0) (aC (dv 1) (aC (dv 2) (aC (dv 3) aN)))))) ?_
  refine bC (r1 := [.d (eW W), .d (eDs one), .d (eDs other), .d (eR p), .d (.list (rows.map (eRow eWord))), .u, .u]) (sSet 4 (dCall cr (hr.mono (by decide)) (aC (dv 0) (aC (dv 1) (aC (dv 2) (aC (dv 3) aN))))) nd) ?_
  refine b1 (sRet (r1 := [.d (eW W), .d (eDs one), .d (eDs other), .d (eR p), .d (.list (rows.map (eRow eWord))), .u, .u]) (dCall (c_in_order E (fun r hr => ?_) (by rw [List.length_map, List.length_tail]; omega) rf.2) (hr.mono (by decide)) (aC (r1 := [.d (eW W), .d (eDs one), .d (eDs other), .d (eR p), .d (.list (rows.map (eRow eWord))), .u, .u])
    (dLc (own := [("span", 5), ("word", 6)]) (iTo (iL (dSlL (dv 4) (oS di) oN)) (ys := rows.tail.map (eRow eWord)) ?_) (noM rfl) (comp_map (eRow eWord) eR (fun row => row.1.1) _ fun row hrow => cTake (fun _ _ _ _ _ _ => gTu (gC (gNm 5 nd) (gC (gNm 6 nd) gN))) (by decide) (fun _ _ _ _ _ _ => dI (xs := [eR row.1.1, .bool row.1.2.1, eR row.1.2.2.1, .bool row.1.2.2.2]) (dv 5) di)) (by rw [List.length_map, List.length_tail]; omega) nd (by rfl)) aN)))
  · obtain ⟨row, hrow, rfl⟩ := List.mem_map.mp hr
    exact rf.1 row (List.mem_of_mem_tail hrow)
  · cases rows with
    | nil => rfl
    | cons a t => exact cut_drop ((a :: t).map (eRow eWord)) 1 (by simp)
end Kx
end Sec_P12
section Sec_L1
set_option maxRecDepth 100000
/-! The law's bag, and what is drawn from it. -/
namespace Kx
open PySem PySem.Spec PyProof.Rows L2 DL AM
variable {P : Program} {w : World} {K : PySem.W.Frag} {mg : Str → Option Value} {base : Heap}
abbrev Bag := Int × Int
structure Bg (b : Bag) : Prop where
  x : 0 ≤ b.1
  y : 0 ≤ b.2
  z : b.2 < 2147483077
def bL (b : Bag) : List PyData := [.int b.1, .int b.2]
theorem sc_bag : Sc ["_law_script_here", "_law_k", "_law_cell"] ["_law_script_here", "_law_k"] 82 := ⟨rfl, rfl, rfl, by decide +kernel, rfl, by decide +kernel, by decide +kernel⟩
theorem c_bag (E : En K mg) (ns : List Int) (k : Nat) (hk : k < 100) : ∃ b, Bg b ∧ CalF P w K mg base 1 "_law_bag" [.list (ns.map .int), .int k] (bL b) := by
  obtain ⟨f, fd, F, hm⟩ := E.f__law_bag
  have nd := sc_bag.nd
  obtain ⟨c, hc0, hc1, hc2⟩ : ∃ c : Int, 0 ≤ c ∧ (∀ i, ns[k]? = some i → c = if i < 0 then -i else i) ∧ (ns[k]? = none → c = 71 * (k : Int) + 31) := by
    cases h : ns[k]? with
    | none => exact ⟨71 * (k : Int) + 31, by omega, nofun, fun _ => rfl⟩
    | some i => exact ⟨if i < 0 then -i else i, by split <;> omega, (fun j h => by cases h; rfl), nofun⟩
  refine ⟨(if (10 : Int) ^ 18 ≤ c then c else 0, (c % 2147483077 + 80021 * (k : Int) + 59) % 2147483077), ⟨by dsimp only; split <;> omega, by dsimp only; omega, by dsimp only; omega⟩, ?_⟩
  refine cal_fresh F sc_bag hm (fun _ _ _ _ _ _ us hl => match us, hl with | [_, _], _ => rfl) rfl (by decide) fun f cdv A outer s' H Ex G hr => ?_
  refine bC (sSet 2 (x := .int c) (r1 := [.d (.list (ns.map .int)), .d (.int k), .u]) (dIf' (tLt (dv 1) (dLen (xs := ns.map .int) E.b_len (.inl rfl) (aC (dv 0) aN))) (fun h => ?_) (fun h => ?_)) nd) ?_
  · have hl : k < ns.length := by have := of_decide_eq_true h; rw [List.length_map] at this; omega
    have hg : ns[k]? = some ns[k] := List.getElem?_eq_getElem hl
    rw [hc1 _ hg]
    exact dAbs E.b_abs (aC (dInt E.b_int (aC (dIxL (xs := ns.map .int) (x := .int ns[k]) (atI_nat (by rw [List.getElem?_map, hg]; rfl)) (dv 0) (dv 1)) aN)) aN)
  · have hl : ns.length ≤ k := by have := of_decide_eq_false h; rw [List.length_map] at this; omega
    rw [hc2 (List.getElem?_eq_none hl)]
    exact dAdd (dMul (by simp only [CMul]; omega) di (dv 1)) di
  · refine b1 (sRetL (show 2 ≤ sizeLine by decide) (aC (dIf' (x := .int (if (10 : Int) ^ 18 ≤ c then c else 0)) (tGe (dv 2) (dPow (show CPow 10 18 from ⟨by decide, by decide, by decide⟩) di di)) (fun h => dTo (dv 2) ?_) (fun h => dTo di ?_))
      (aC (dMod (by decide) (dInt E.b_int (aC (dAdd (dAdd (dMod (by decide) (dInt E.b_int (aC (dv 2) aN)) di) (dMul (by simp only [CMul]; omega) di (dv 1))) di) aN)) di) aN)))
    · have h' : (10 : Int) ^ 18 ≤ c := of_decide_eq_true h
      rw [if_pos h']
    · have h' : ¬ (10 : Int) ^ 18 ≤ c := of_decide_eq_false h
      rw [if_neg h']
theorem sc_take : Sc ["_law_bag_here", "_law_many", "_law_found", "_law_kneaded"] ["_law_bag_here", "_law_many"] 83 := ⟨rfl, rfl, rfl, by decide +kernel, rfl, by decide +kernel, by decide +kernel⟩
theorem c_take (E : En K mg) {b : Bag} (hb : Bg b) {m : Int} (h0 : 0 < m) (h1 : m ≤ 1000000) : ∃ v b', (0 ≤ v ∧ v < m) ∧ Bg b' ∧ CalB P w K mg base 1 "_law_take" (bL b) [.int m] (.int v) (bL b') := by
  obtain ⟨f, fd, F, hm⟩ := E.f__law_take
  have nd := sc_take.nd
  obtain ⟨x0, y0, y1⟩ := hb
  by_cases hx : 0 < b.1
  · refine ⟨b.1 % m, (b.1 / m, b.2), ⟨Int.emod_nonneg _ (by omega), Int.emod_lt_of_pos _ h0⟩, ⟨Int.ediv_nonneg x0 (by omega), y0, y1⟩, ?_⟩
    refine calB_of F sc_take hm (fun _ _ _ _ _ _ us hl => match us, hl with | [_, _], _ => rfl) rfl (by decide) nofun fun f cdv A outer s' H Ex G hr => ?_
    refine bIf (tGt (dIxM 0 (xs := [.int b.1, .int b.2]) (x := .int b.1) rfl di) di) (fun _ => brR ?_) (fun h => absurd hx (of_decide_eq_false h))
    refine bC (r1 := [.m false [.int b.1, .int b.2], .d (.int m), .d (.int (b.1 % m)), .u]) (sSet 2 (dMod h0 (dInt E.b_int (aC (dIxM 0 (xs := [.int b.1, .int b.2]) (x := .int b.1) rfl di) aN)) (dv 1)) nd) ?_
    refine bC (sMst 0 (dDiv (cdiv h0 (by omega)) (dInt E.b_int (aC (dIxM 0 (xs := [.int b.1, .int b.2]) (x := .int b.1) rfl di) aN)) (dv 1)) di rfl) ?_
    exact b1 (sRet (dv 2))
  · have k1 : 0 ≤ (b.2 * 40014 + 607) % 2147483077 ∧ (b.2 * 40014 + 607) % 2147483077 < 2147483077 := by omega
    generalize hy : (b.2 * 40014 + 607) % 2147483077 = y at k1
    refine ⟨y * (y / 19 + 41) % 2147483069 / 23 % m, (b.1, y), ⟨Int.emod_nonneg _ (by omega), Int.emod_lt_of_pos _ h0⟩, ⟨x0, k1.1, k1.2⟩, ?_⟩
    refine calB_of F sc_take hm (fun _ _ _ _ _ _ us hl => match us, hl with | [_, _], _ => rfl) rfl (by decide) nofun fun f cdv A outer s' H Ex G hr => ?_
    refine bIf (tGt (dIxM 0 (xs := [.int b.1, .int b.2]) (x := .int b.1) rfl di) di) (fun h => absurd (of_decide_eq_true h) hx) (fun _ => br0 ?_)
    refine bC (sMst 0 (dTo (y := .int y) (dMod (by decide) (dInt E.b_int (aC (dAdd (dMul (by simp only [CMul]; omega) (dIxM 0 (xs := [.int b.1, .int b.2]) (x := .int b.2) rfl di) di) di) aN)) di) (by rw [hy])) di rfl) ?_
    refine bC (r1 := [.m false [.int b.1, .int y], .d (.int m), .u, .d (.int (y * (y / 19 + 41) % 2147483069))]) (sSet 3 (dMod (by decide) (dMul (by simp only [CMul]; omega) (dInt E.b_int (aC (dIxM 0 (xs := [.int b.1, .int y]) (x := .int y) rfl di) aN)) (dAdd (dDiv (cdiv (by decide) (by decide)) (dInt E.b_int (aC (dIxM 0 (xs := [.int b.1, .int y]) (x := .int y) rfl di) aN)) di) di)) di) nd) ?_
    exact b1 (sRet (dMod h0 (dInt E.b_int (aC (dDiv (cdiv (by decide) (by decide)) (dInt E.b_int (aC (dv 3) aN)) di) aN)) (dv 1)))
theorem sc_of : Sc ["_law_bag_here", "_law_some"] ["_law_bag_here", "_law_some"] 84 := ⟨rfl, rfl, rfl, by decide +kernel, rfl, by decide +kernel, by decide +kernel⟩
theorem c_of (E : En K mg) {b : Bag} (hb : Bg b) (xs : List PyData) (h0 : xs ≠ []) (h1 : xs.length ≤ 1000) : ∃ x b', x ∈ xs ∧ Bg b' ∧ CalB P w K mg base 2 "_law_of" (bL b) [.list xs] x (bL b') := by
  obtain ⟨f, fd, F, hm⟩ := E.f__law_of
  have hl := List.length_pos_iff.mpr h0
  obtain ⟨v, b', hv, hb', ct⟩ := c_take (P := P) (w := w) (base := base) E hb (m := (xs.length : Int)) (by omega) (by omega)
  obtain ⟨i, rfl⟩ := Int.eq_ofNat_of_zero_le hv.1
  have hi : i < xs.length := by omega
  refine ⟨xs[i], b', List.getElem_mem hi, hb', ?_⟩
  refine calB_of F sc_of hm (fun _ _ _ _ _ _ us hl => match us, hl with | [_, _], _ => rfl) rfl (by decide) nofun fun f cdv A outer s' H Ex G hr => ?_
  exact b1 (sRet (dIxL (i := (i : Int)) (atI_nat (List.getElem?_eq_getElem hi)) (dv 1) (dCallB 0 ct hr (aC (dLen E.b_len (.inl rfl) (aC (dv 1) aN)) aN))))
theorem sc_law_rounding : Sc ["_law_bag_here", "_law_mode", "_law_step"] ["_law_bag_here"] 85 := ⟨rfl, rfl, rfl, by decide +kernel, rfl, by decide +kernel, by decide +kernel⟩
theorem lst_len {n : Nat} (h : n ≤ 1000) : n ≤ sizeLine := by have := sizeLine_eq; omega
theorem c_law_rounding (E : En K mg) {b : Bag} (hb : Bg b) : ∃ o b', VRo o ∧ Bg b' ∧ CalB P w K mg base 3 "_law_rounding" (bL b) [] (eRo o) (bL b') := by
  obtain ⟨f, fd, F, hm⟩ := E.f__law_rounding
  have nd := sc_law_rounding.nd
  obtain ⟨x, b1', hx, hb1, c1⟩ := c_of (P := P) (w := w) (base := base) E hb [.str "down", .str "down", .str "up", .str "near", .str "nine"] nofun (by decide)
  obtain ⟨y, b2', hy, hb2, c2⟩ := c_of (P := P) (w := w) (base := base) E hb1 [.int 1, .int 1, .int 1, .int 2, .int 3, .int 5, .int 10] nofun (by decide)
  obtain ⟨m, rfl⟩ : ∃ m : Mode, x = .str (ms m) := by
    simp only [List.mem_cons, List.not_mem_nil, or_false] at hx
    rcases hx with rfl | rfl | rfl | rfl | rfl
    · exact ⟨.down, rfl⟩
    · exact ⟨.down, rfl⟩
    · exact ⟨.up, rfl⟩
    · exact ⟨.near, rfl⟩
    · exact ⟨.nine, rfl⟩
  obtain ⟨s, rfl, hs⟩ : ∃ s : Int, y = .int s ∧ 1 ≤ s ∧ s ≤ 10 := by
    simp only [List.mem_cons, List.not_mem_nil, or_false] at hy
    rcases hy with rfl | rfl | rfl | rfl | rfl | rfl | rfl <;> exact ⟨_, rfl, by decide, by decide⟩
  refine ⟨⟨m, if m = .nine then (if s > 2 then s else 2) else s⟩, b2', ⟨⟨by dsimp only; split <;> (try split) <;> omega, by dsimp only; split <;> (try split) <;> omega⟩, fun h => by dsimp only at h ⊢; rw [if_pos h]; split <;> omega⟩, hb2, ?_⟩
  refine calB_of F sc_law_rounding hm (fun _ _ _ _ _ _ us hl => match us, hl with | [_], _ => rfl) rfl (by decide) nofun fun f cdv A outer s' H Ex G hr => ?_
  refine bC (r1 := [.m false (bL b1'), .d (.str (ms m)), .u]) (sSet 1 (dCallB 0 c1 hr (aC (dLst (lst_len (by decide)) (aC ds (aC ds (aC ds (aC ds (aC ds aN)))))) aN)) nd) ?_
  refine bC (r1 := [.m false (bL b2'), .d (.str (ms m)), .d (.int s)]) (sSet 2 (dCallB 0 c2 hr (aC (dLst (lst_len (by decide)) (aC di (aC di (aC di (aC di (aC di (aC di (aC di aN)))))))) aN)) nd) ?_
  refine b1 (sRet (dTup2 (aC (dv 1) (aC (dIf' (tEqS (dv 1) ds) (fun h => dTo (dMax E.b_max (aC di (aC (dv 2) aN))) ?_) (fun h => dTo (dv 2) ?_)) aN))))
  · cases m <;> first | rfl | (exact absurd h (by decide))
  · cases m <;> first | rfl | (exact absurd h (by decide))
theorem sc_law_rule : Sc ["_law_bag_here"] ["_law_bag_here"] 86 := ⟨rfl, rfl, rfl, by decide +kernel, rfl, by decide +kernel, by decide +kernel⟩
theorem c_law_rule (E : En K mg) {b : Bag} (hb : Bg b) : ∃ u b', VRu u ∧ Bg b' ∧ CalB P w K mg base 4 "_law_rule" (bL b) [] (eRu u) (bL b') := by
  obtain ⟨f, fd, F, hm⟩ := E.f__law_rule
  obtain ⟨o, b1', ho, hb1, c1⟩ := c_law_rounding (P := P) (w := w) (base := base) E hb
  obtain ⟨x, b2', hx, hb2, c2⟩ := c_of (P := P) (w := w) (base := base) E hb1 [.int 0, .int 0, .int 1, .int 2, .int 5] nofun (by decide)
  obtain ⟨y, b3', hy, hb3, c3⟩ := c_of (P := P) (w := w) (base := base) E hb2 [.int 0, .int 0, .int 0, .int 1, .int 10, .int 25, .int 50] nofun (by decide)
  obtain ⟨c, rfl, hc⟩ : ∃ s : Int, x = .int s ∧ 0 ≤ s ∧ s ≤ 30 := by
    simp only [List.mem_cons, List.not_mem_nil, or_false] at hx
    rcases hx with rfl | rfl | rfl | rfl | rfl <;> exact ⟨_, rfl, by decide, by decide⟩
  obtain ⟨k, rfl, hk⟩ : ∃ s : Int, y = .int s ∧ 0 ≤ s ∧ s ≤ 50 := by
    simp only [List.mem_cons, List.not_mem_nil, or_false] at hy
    rcases hy with rfl | rfl | rfl | rfl | rfl | rfl | rfl <;> exact ⟨_, rfl, by decide, by decide⟩
  refine ⟨⟨o.m, o.s, c, k⟩, b3', ⟨⟨ho.k.s0, ho.k.s1, hc.1, hc.2, hk.1, hk.2⟩, ho.n⟩, hb3, ?_⟩
  refine calB_of F sc_law_rule hm (fun _ _ _ _ _ _ us hl => match us, hl with | [_], _ => rfl) rfl (by decide) nofun fun f cdv A outer s' H Ex G hr => ?_
  exact b1 (sRet (r1 := [.m false (bL b3')]) (dCatT (xs := [.str (ms o.m), .int o.s]) (ys := [.int c, .int k]) (show 4 ≤ sizeLine by decide) (r1 := [.m false (bL b1')]) (dCallB 0 c1 hr aN) (dTup2 (aC (r1 := [.m false (bL b2')]) (dCallB 0 c2 (hr.mono (by decide)) (aC (dLst (lst_len (by decide)) (aC di (aC di (aC di (aC di (aC di aN)))))) aN)) (aC (dCallB 0 c3 (hr.mono (by decide)) (aC (dLst (lst_len (by decide)) (aC di (aC di (aC di (aC di (aC di (aC di (aC di aN)))))))) aN)) aN)))))
theorem sc_law_fine : Sc ["_law_bag_here"] ["_law_bag_here"] 87 := ⟨rfl, rfl, rfl, by decide +kernel, rfl, by decide +kernel, by decide +kernel⟩
theorem c_law_fine (E : En K mg) {b : Bag} (hb : Bg b) : ∃ u b', VRu u ∧ Bg b' ∧ CalB P w K mg base 3 "_law_fine" (bL b) [] (eRu u) (bL b') := by
  obtain ⟨f, fd, F, hm⟩ := E.f__law_fine
  obtain ⟨x, b1', hx, hb1, c1⟩ := c_of (P := P) (w := w) (base := base) E hb [.str "down", .str "down", .str "near", .str "up"] nofun (by decide)
  obtain ⟨y, b2', hy, hb2, c2⟩ := c_of (P := P) (w := w) (base := base) E hb1 [.int 0, .int 0, .int 1] nofun (by decide)
  obtain ⟨z, b3', hz, hb3, c3⟩ := c_of (P := P) (w := w) (base := base) E hb2 [.int 0, .int 0, .int 5] nofun (by decide)
  obtain ⟨m, rfl, hm'⟩ : ∃ m : Mode, x = .str (ms m) ∧ m ≠ .nine := by
    simp only [List.mem_cons, List.not_mem_nil, or_false] at hx
    rcases hx with rfl | rfl | rfl | rfl
    · exact ⟨.down, rfl, by decide⟩
    · exact ⟨.down, rfl, by decide⟩
    · exact ⟨.near, rfl, by decide⟩
    · exact ⟨.up, rfl, by decide⟩
  obtain ⟨c, rfl, hc⟩ : ∃ s : Int, y = .int s ∧ 0 ≤ s ∧ s ≤ 30 := by
    simp only [List.mem_cons, List.not_mem_nil, or_false] at hy
    rcases hy with rfl | rfl | rfl <;> exact ⟨_, rfl, by decide, by decide⟩
  obtain ⟨k, rfl, hk⟩ : ∃ s : Int, z = .int s ∧ 0 ≤ s ∧ s ≤ 50 := by
    simp only [List.mem_cons, List.not_mem_nil, or_false] at hz
    rcases hz with rfl | rfl | rfl <;> exact ⟨_, rfl, by decide, by decide⟩
  refine ⟨⟨m, 1, c, k⟩, b3', ⟨⟨show (0 : Int) < 1 by decide, show (1 : Int) ≤ 10 by decide, hc.1, hc.2, hk.1, hk.2⟩, fun h => absurd h hm'⟩, hb3, ?_⟩
  refine calB_of F sc_law_fine hm (fun _ _ _ _ _ _ us hl => match us, hl with | [_], _ => rfl) rfl (by decide) nofun fun f cdv A outer s' H Ex G hr => ?_
  exact b1 (sRet (r1 := [.m false (bL b3')]) (dTup4 (aC (r1 := [.m false (bL b1')]) (dCallB 0 c1 hr (aC (dLst (lst_len (by decide)) (aC ds (aC ds (aC ds (aC ds aN))))) aN)) (aC di (aC (r1 := [.m false (bL b2')]) (dCallB 0 c2 hr (aC (dLst (lst_len (by decide)) (aC di (aC di (aC di aN)))) aN)) (aC (dCallB 0 c3 hr (aC (dLst (lst_len (by decide)) (aC di (aC di (aC di aN)))) aN)) aN))))))
end Kx
end Sec_L1
section Sec_LW
set_option maxRecDepth 100000
/-! The law's worlds. -/
namespace Kx
open PySem PySem.Spec PyProof.Rows L2 DL AM
/-- a chain of draws -/
inductive Run {β : Type} (S : Bag → β → Bag → Prop) : Bag → List β → Bag → Prop
  | nil {b : Bag} : Run S b [] b
  | cons {b b1 b2 : Bag} {x : β} {l : List β} : S b x b1 → Run S b1 l b2 → Run S b (x :: l) b2
theorem run_ex {β : Type} {S : Bag → β → Bag → Prop} {Q : β → Prop} (h : ∀ b, Bg b → ∃ x b', Q x ∧ Bg b' ∧ S b x b') : ∀ (n : Nat) (b : Bag), Bg b → ∃ l b', l.length = n ∧ (∀ x ∈ l, Q x) ∧ Bg b' ∧ Run S b l b'
  | 0, b, hb => ⟨[], b, rfl, nofun, hb, .nil⟩
  | n + 1, b, hb => by
    obtain ⟨x, b1, hx, hb1, s⟩ := h b hb
    obtain ⟨l, b2, hl, hq, hb2, r⟩ := run_ex h n b1 hb1
    exact ⟨x :: l, b2, by rw [List.length_cons, hl], fun y hy => (List.mem_cons.mp hy).elim (fun e => e ▸ hx) (hq y), hb2, .cons s r⟩
theorem rgD_ints (n : Nat) : rgD 0 n = ((List.range n).map fun (i : Nat) => 0 + (i : Int)).map .int := by
  unfold rgD
  rw [List.map_map]
  rfl
theorem for_run {X : Cx} {G : Fr0} {β : Type} {S : Bag → β → Bag → Prop} {tg : Expr} {body : List Stmt} (ρ : Bag → List β → Rho) (N : Nat) (h : ∀ b x b' acc (i : Int), acc.length < N → S b x b' → FStep X G tg body (ρ b acc) (.int i) (.nx (ρ b' (acc ++ [x])))) :
    ∀ {b l b'}, Run S b l b' → ∀ (acc : List β) (is : List Int), is.length = l.length → acc.length + l.length ≤ N → ForR (FStep X G tg body) (ρ b acc) (is.map .int) (.nx (ρ b' (acc ++ l))) := by
  intro b l b' r
  induction r with
  | nil =>
    intro acc is hl _
    cases is with
    | nil => rw [List.append_nil]; exact .nil
    | cons i is => simp at hl
  | @cons b b1 b2 x l s r ih =>
    intro acc is hl hn
    cases is with
    | nil => simp at hl
    | cons i is =>
      refine .step (h b x b1 acc i (by simp at hn; omega) s) ?_
      have := ih (acc ++ [x]) is (by simpa using hl) (by simp at hn ⊢; omega)
      rw [List.append_assoc] at this
      exact this
theorem comp_run {β : Type} {S : Bag → β → Bag → Prop} {T : Rho → PyData → Option PyData → Rho → Prop} (enc : β → PyData) (ρ : Bag → Rho) (h : ∀ b x b' (i : Int), S b x b' → T (ρ b) (.int i) (some (enc x)) (ρ b')) :
    ∀ {b l b'}, Run S b l b' → ∀ (is : List Int), is.length = l.length → CompR T (ρ b) (is.map .int) (l.map enc) (ρ b') := by
  intro b l b' r
  induction r with
  | nil =>
    intro is hl
    cases is with
    | nil => exact .nil
    | cons i is => simp at hl
  | @cons b b1 b2 x l s r ih =>
    intro is hl
    cases is with
    | nil => simp at hl
    | cons i is => exact .take (h b x b1 i s) (ih is (by simpa using hl))
section
variable {X : Cx} {G : Fr0} {r r1 r2 : Rho} {a b : Expr} {rest : List Expr} {pos : Pos} {k l : Bool}
theorem wAndT (h : DT X G r a true r1) (h2 : DW X G r1 (.BoolOp .And (b :: rest) pos) l r2) : DW X G r (.BoolOp .And (a :: b :: rest) pos) l r2 :=
  pw_imp (pw_and h h2) fun σ H Q ⟨M, o, q⟩ => ⟨M, o, fun H1 o1 s1 => by
      refine iteT ?_
      exact ⟨M, o1, fun H2 o2 s2 => q H2 o2 (Same.trans s1 s2)⟩⟩
theorem wAndF (h : DT X G r a false r1) : DW X G r (.BoolOp .And (a :: b :: rest) pos) false r1 :=
  pw_imp (pw_and h pw_never) fun σ H Q ⟨M, o, q⟩ => ⟨M, o, fun H1 o1 s1 => by
      refine iteF ?_
      exact q H1 o1 s1⟩
end
variable {P : Program} {w : World} {K : PySem.W.Frag} {mg : Str → Option Value} {base : Heap}
def PeS (P : Program) (w : World) (K : PySem.W.Frag) (mg : Str → Option Value) (base : Heap) (b : Bag) (u : Ru) (b' : Bag) : Prop :=
  ∃ v b1, CalB P w K mg base 1 "_law_take" (bL b) [.int 2] (.int v) (bL b1) ∧ ((v = 0 ∧ CalB P w K mg base 3 "_law_fine" (bL b1) [] (eRu u) (bL b')) ∨ (v ≠ 0 ∧ CalB P w K mg base 4 "_law_rule" (bL b1) [] (eRu u) (bL b')))
theorem pe_ex (E : En K mg) {b : Bag} (hb : Bg b) : ∃ u b', VRu u ∧ Bg b' ∧ PeS P w K mg base b u b' := by
  obtain ⟨v, b1, hv, hb1, c1⟩ := c_take (P := P) (w := w) (base := base) E hb (m := 2) (by decide) (by decide)
  by_cases h : v = 0
  · obtain ⟨u, b2, hu, hb2, c2⟩ := c_law_fine (P := P) (w := w) (base := base) E hb1
    exact ⟨u, b2, hu, hb2, v, b1, c1, .inl ⟨h, c2⟩⟩
  · obtain ⟨u, b2, hu, hb2, c2⟩ := c_law_rule (P := P) (w := w) (base := base) E hb1
    exact ⟨u, b2, hu, hb2, v, b1, c1, .inr ⟨h, c2⟩⟩
def OfS (P : Program) (w : World) (K : PySem.W.Frag) (mg : Str → Option Value) (base : Heap) (b : Bag) (o : Office) (b' : Bag) : Prop :=
  ∃ u0 u1 b1 b2 v, PeS P w K mg base b u0 b1 ∧ PeS P w K mg base b1 u1 b2 ∧ CalB P w K mg base 1 "_law_take" (bL b2) [.int 8] (.int v) (bL b') ∧ o = (if v = 0 then none else some u0, if v = 1 then none else some u1)
theorem of_ex (E : En K mg) {b : Bag} (hb : Bg b) : ∃ o b', OOk o ∧ Bg b' ∧ OfS P w K mg base b o b' := by
  obtain ⟨u0, b1, h0, hb1, c1⟩ := pe_ex (P := P) (w := w) (base := base) E hb
  obtain ⟨u1, b2, h1, hb2, c2⟩ := pe_ex (P := P) (w := w) (base := base) E hb1
  obtain ⟨v, b3, hv, hb3, c3⟩ := c_take (P := P) (w := w) (base := base) E hb2 (m := 8) (by decide) (by decide)
  refine ⟨_, b3, ⟨fun u e => ?_, fun u e => ?_, ?_⟩, hb3, u0, u1, b1, b2, v, c1, c2, c3, rfl⟩
  · dsimp only at e
    split at e
    · cases e
    · cases e; exact h0
  · dsimp only at e
    split at e
    · cases e
    · cases e; exact h1
  · dsimp only
    by_cases h : v = 0
    · right
      rw [if_neg (by omega)]
      exact nofun
    · left
      rw [if_neg h]
      exact nofun
def ShS (P : Program) (w : World) (K : PySem.W.Frag) (mg : Str → Option Value) (base : Heap) (b : Bag) (s : Shop) (b' : Bag) : Prop :=
  ∃ b1 b2 v, CalB P w K mg base 3 "_law_rounding" (bL b) [] (eRo s.1) (bL b1) ∧ CalB P w K mg base 3 "_law_rounding" (bL b1) [] (eRo s.2.1) (bL b2) ∧ CalB P w K mg base 1 "_law_take" (bL b2) [.int 3] (.int v) (bL b') ∧ s.2.2 = decide (0 < v)
theorem sh_ex (E : En K mg) {b : Bag} (hb : Bg b) : ∃ s b', SOk s ∧ Bg b' ∧ ShS P w K mg base b s b' := by
  obtain ⟨o1, b1, h1, hb1, c1⟩ := c_law_rounding (P := P) (w := w) (base := base) E hb
  obtain ⟨o2, b2, h2, hb2, c2⟩ := c_law_rounding (P := P) (w := w) (base := base) E hb1
  obtain ⟨v, b3, hv, hb3, c3⟩ := c_take (P := P) (w := w) (base := base) E hb2 (m := 3) (by decide) (by decide)
  exact ⟨(o1, o2, decide (0 < v)), b3, ⟨h1, h2⟩, hb3, b1, b2, v, c1, c2, c3, rfl⟩
theorem sc_law_world : Sc ["_law_bag_here", "_law_offices", "_law_shops", "_law_found", "_law_some", "_law_turn", "_law_pair", "_law_gone", "_law_side"] ["_law_bag_here", "_law_offices", "_law_shops"] 88 := ⟨rfl, rfl, rfl, by decide +kernel, rfl, by decide +kernel, by decide +kernel⟩
theorem c_law_world (E : En K mg) {b : Bag} (hb : Bg b) : ∃ W b', WOk W ∧ W.offices.length ≤ 2 ∧ W.shops.length ≤ 1 ∧ Bg b' ∧ CalB P w K mg base 5 "_law_world" (bL b) [.int 2, .int 1] (eW W) (bL b') := by
  obtain ⟨f, fd, F, hm⟩ := E.f__law_world
  have nd := sc_law_world.nd
  have sz := sizeLine_eq
  obtain ⟨v, b1', hv, hb1, c1⟩ := c_take (P := P) (w := w) (base := base) E hb (m := 2) (by decide) (by decide)
  obtain ⟨offs, b2', ho, hoq, hb2, ro⟩ := run_ex (fun b hb => of_ex (P := P) (w := w) (base := base) E hb) (1 + v).toNat b1' hb1
  obtain ⟨u, b3', hu, hb3, c3⟩ := c_take (P := P) (w := w) (base := base) E hb2 (m := 2) (by decide) (by decide)
  obtain ⟨shops, b4', hs, hsq, hb4, rs⟩ := run_ex (fun b hb => sh_ex (P := P) (w := w) (base := base) E hb) u.toNat b3' hb3
  refine ⟨⟨offs, shops⟩, b4', ⟨hoq, hsq, by dsimp only; omega, by dsimp only; intro z; rw [z] at ho; simp at ho; omega, by dsimp only; omega⟩, by dsimp only; omega, by dsimp only; omega, hb4, ?_⟩
  refine calB_of F sc_law_world hm (fun _ _ _ _ _ _ us hl => match us, hl with | [_, _, _], _ => rfl) rfl (by decide) nofun fun f cdv A outer s' H Ex G hr => ?_
  refine bC (r1 := [.m false (bL b), .d (.int 2), .d (.int 1), .m true [], .m true [], .u, .u, .u, .u]) (sNew2 3 4 nd) ?_
  refine bC (r1 := [.m false (bL b2'), .d (.int 2), .d (.int 1), .m true (offs.map eOff), .m true [], .u, .u, .u, .u]) (sFor (r1 := [.m false (bL b1'), .d (.int 2), .d (.int 1), .m true [], .m true [], .u, .u, .u, .u]) (iTo (iR1 E.b_range (aC (dAdd di (dCallB 0 c1 (hr.mono (by decide)) (aC (dv 1) aN))) aN) (by omega)) (rgD_ints _)) ?_) ?_
  · have := for_run (X := (cxOf CX0 P w K mg base ["_law_bag_here", "_law_offices", "_law_shops", "_law_found", "_law_some", "_law_turn", "_law_pair", "_law_gone", "_law_side"] "_law_world" (defScope (top 88)) f cdv A outer s' H Ex).nox) (G := G)
      (tg := ?_) (body := ?_) (fun b (l : List Office) => [.m false (bL b), .d (.int 2), .d (.int 1), .m true (l.map eOff), .m true [], .u, .u, .u, .u]) 2 (S := OfS P w K mg base) ?_ ro [] ((List.range (1 + v).toNat).map fun (i : Nat) => 0 + (i : Int)) (by rw [List.length_map, List.length_range, ho]) (by rw [ho]; simp; omega)
    · exact this
    · intro b o b' acc i hacc hS
      obtain ⟨u0, u1, b1, b2, v, p1, p2, c3, rfl⟩ := hS
      refine fS (gNm 5 nd) ?_
      refine bC (r1 := [.m false (bL b2), .d (.int 2), .d (.int 1), .m true (acc.map eOff), .m true [], .d (.int i), .d (.list [eRu u0, eRu u1]), .u, .u]) (sLc 6 (own := [("_law_side", 8)]) (ys := [eRu u0, eRu u1]) (r2 := [.m false (bL b2), .d (.int 2), .d (.int 1), .m true (acc.map eOff), .m true [], .d (.int i), .u, .u, .u]) (iR1 E.b_range (aC di aN) (by decide)) (noM rfl)
          (.take (r1 := [.m false (bL b1), .d (.int 2), .d (.int 1), .m true (acc.map eOff), .m true [], .d (.int i), .u, .u, .u]) (cTake (y := eRu u0) (rc := [.m false (bL b1), .d (.int 2), .d (.int 1), .m true (acc.map eOff), .m true [], .d (.int i), .u, .u, .d (.int (0 + ((0 : Nat) : Int)))]) (fun _ _ _ _ _ _ => gNm 8 nd) (by decide) (fun _ _ _ _ _ _ => ?_))
          (.take (r1 := [.m false (bL b2), .d (.int 2), .d (.int 1), .m true (acc.map eOff), .m true [], .d (.int i), .u, .u, .u]) (cTake (y := eRu u1) (rc := [.m false (bL b2), .d (.int 2), .d (.int 1), .m true (acc.map eOff), .m true [], .d (.int i), .u, .u, .d (.int (0 + ((1 : Nat) : Int)))]) (fun _ _ _ _ _ _ => gNm 8 nd) (by decide) (fun _ _ _ _ _ _ => ?_)) .nil)) (show 2 ≤ sizeLine by omega) nd (by rfl) (by rfl)) ?_
      · obtain ⟨v, b', e1, e2⟩ := p1
        exact dIf' (tEqI (dCallB 0 e1 (hr.mono (by decide)) (aC di aN)) di) (fun h => by
          rcases e2 with ⟨_, e3⟩ | ⟨z, _⟩
          · exact dCallB 0 e3 (hr.mono (by decide)) aN
          · exact absurd (by simpa using h) z) (fun h => by
          rcases e2 with ⟨z, _⟩ | ⟨_, e3⟩
          · subst z; exact absurd h (by decide)
          · exact dCallB 0 e3 hr aN)
      · obtain ⟨v, b', e1, e2⟩ := p2
        exact dIf' (tEqI (dCallB 0 e1 (hr.mono (by decide)) (aC di aN)) di) (fun h => by
          rcases e2 with ⟨_, e3⟩ | ⟨z, _⟩
          · exact dCallB 0 e3 (hr.mono (by decide)) aN
          · exact absurd (by simpa using h) z) (fun h => by
          rcases e2 with ⟨z, _⟩ | ⟨_, e3⟩
          · subst z; exact absurd h (by decide)
          · exact dCallB 0 e3 hr aN)
      · refine bC (r1 := [.m false (bL b'), .d (.int 2), .d (.int 1), .m true (acc.map eOff), .m true [], .d (.int i), .d (.list [eRu u0, eRu u1]), .d (.int v), .u]) (sSet 7 (dCallB 0 c3 (hr.mono (by decide)) (aC di aN)) nd) ?_
        refine bC (r1 := [.m false (bL b'), .d (.int 2), .d (.int 1), .m true ((acc ++ [(if v = 0 then none else some u0, if v = 1 then none else some u1)]).map eOff), .m true [], .d (.int i), .d (.list [eRu u0, eRu u1]), .d (.int v), .u]) ?_ (bW [5, 6, 7])
        rw [List.map_append]
        refine sApp 3 (dTup2 (aC (dIf' (x := eORu (if v = 0 then none else some u0)) (tEqI (dv 7) di) (fun h => dTo dn ?_) (fun h => dTo (dIxL (xs := [eRu u0, eRu u1]) (x := eRu u0) rfl (dv 6) di) ?_))
          (aC (dIf' (x := eORu (if v = 1 then none else some u1)) (tEqI (dv 7) di) (fun h => dTo dn ?_) (fun h => dTo (dIxL (xs := [eRu u0, eRu u1]) (x := eRu u1) rfl (dv 6) di) ?_)) aN))) (by rw [List.length_map]; omega)
        · rw [if_pos (by simpa using h)]; rfl
        · rw [if_neg (by simpa using h)]; rfl
        · rw [if_pos (by simpa using h)]; rfl
        · rw [if_neg (by simpa using h)]; rfl
  refine bC (r1 := [.m false (bL b4'), .d (.int 2), .d (.int 1), .m true (offs.map eOff), .m true (shops.map eShop), .u, .u, .u, .u]) (sFor (r1 := [.m false (bL b3'), .d (.int 2), .d (.int 1), .m true (offs.map eOff), .m true [], .u, .u, .u, .u]) (iTo (iR1 E.b_range (aC (dCallB 0 c3 (hr.mono (by decide)) (aC (dTo (y := .int 2) (dAdd (dv 2) di) rfl) aN)) aN) (by omega)) (rgD_ints _)) ?_) ?_
  · have := for_run (X := (cxOf CX0 P w K mg base ["_law_bag_here", "_law_offices", "_law_shops", "_law_found", "_law_some", "_law_turn", "_law_pair", "_law_gone", "_law_side"] "_law_world" (defScope (top 88)) f cdv A outer s' H Ex).nox) (G := G)
      (tg := ?_) (body := ?_) (fun b (l : List Shop) => [.m false (bL b), .d (.int 2), .d (.int 1), .m true (offs.map eOff), .m true (l.map eShop), .u, .u, .u, .u]) 2 (S := ShS P w K mg base) ?_ rs [] ((List.range u.toNat).map fun (i : Nat) => 0 + (i : Int)) (by rw [List.length_map, List.length_range, hs]) (by rw [hs]; simp; omega)
    · exact this
    · intro b s b' acc i hacc hS
      obtain ⟨b1, b2, v, p1, p2, c3, e⟩ := hS
      refine fS (gNm 5 nd) ?_
      refine bC (r1 := [.m false (bL b'), .d (.int 2), .d (.int 1), .m true (offs.map eOff), .m true ((acc ++ [s]).map eShop), .d (.int i), .u, .u, .u]) ?_ (bW [5])
      rw [List.map_append]
      exact sApp 4 (r1 := [.m false (bL b'), .d (.int 2), .d (.int 1), .m true (offs.map eOff), .m true (acc.map eShop), .d (.int i), .u, .u, .u]) (x := eShop s) (dTup3 (aC (r1 := [.m false (bL b1), .d (.int 2), .d (.int 1), .m true (offs.map eOff), .m true (acc.map eShop), .d (.int i), .u, .u, .u]) (dCallB 0 p1 (hr.mono (by decide)) aN)
        (aC (r1 := [.m false (bL b2), .d (.int 2), .d (.int 1), .m true (offs.map eOff), .m true (acc.map eShop), .d (.int i), .u, .u, .u]) (dCallB 0 p2 (hr.mono (by decide)) aN) (aC (dTo (dGt (dCallB 0 c3 (hr.mono (by decide)) (aC di aN)) di) (by rw [e])) aN)))) (by rw [List.length_map]; omega)
  refine bFz (i := 3) rfl (bFz (i := 4) rfl ?_)
  exact b1 (sRet (dTup2 (aC (dTupOf E.b_tuple (dv 3)) (aC (dTupOf E.b_tuple (dv 4)) aN))))
end Kx
end Sec_LW
section Sec_LD
set_option maxRecDepth 100000
/-! The law's deeds. -/
namespace Kx
open PySem PySem.Spec PyProof.Rows L2 DL AM
variable {P : Program} {w : World} {K : PySem.W.Frag} {mg : Str → Option Value} {base : Heap}
abbrev ldN : List Str := ["_law_bag_here", "_law_world_here", "_law_offices", "_law_shops", "_law_at", "_law_price_so", "_law_words", "_law_word_here", "_law_last", "_law_ways", "_law_part"]
theorem sc_law_deed : Sc ldN ["_law_bag_here", "_law_world_here"] 89 := ⟨rfl, rfl, rfl, by decide +kernel, rfl, by decide +kernel, by decide +kernel⟩
abbrev XD (P : Program) (w : World) (K : PySem.W.Frag) (mg : Str → Option Value) (base : Heap) (f : Addr) (cdv : Value) (A : Around) (outer : List Env) (s' : Shared) (H : Hp) (Ex : XK) : Cx :=
  (cxOf CX0 P w K mg base ldN "_law_deed" (defScope (top 89)) f cdv A outer s' H Ex).nox
abbrev R0 (W : Wd) (b : Bag) : Rho := [.m false (bL b), .d (eW W), .d (.tuple (W.offices.map eOff)), .d (.tuple (W.shops.map eShop)), .u, .u, .u, .u, .u, .u, .u]
theorem law_deed_go (E : En K mg) {W : Wd} {b b' : Bag} {d : Deed} (h : ∀ (f : Addr) (cdv : Value) (A : Around) (outer : List Env) (s' : Shared) (H : Hp) (Ex : XK) (G : Fr0), Room 3 (XD P w K mg base f cdv A outer s' H Ex).A →
    DB (XD P w K mg base f cdv A outer s' H Ex) G (R0 W b) ((defBody (top 89)).drop 1) (.rt (eD d) (bL b'))) : CalB P w K mg base 4 "_law_deed" (bL b) [eW W] (eD d) (bL b') := by
  obtain ⟨f, fd, F, hm⟩ := E.f__law_deed
  have nd := sc_law_deed.nd
  refine calB_of F sc_law_deed hm (fun _ _ _ _ _ _ us hl => match us, hl with | [_, _], _ => rfl) rfl (by decide) nofun fun f cdv A outer s' H Ex G hr => ?_
  refine bC (r1 := R0 W b) (sAsg (dv 1) (gTu (gC (gNm 2 nd) (gC (gNm 3 nd) gN)))) ?_
  exact h f cdv A outer s' H Ex G hr
def ways (o : Office) : List Bool := [(false, o.1), (true, o.2)].filterMap fun q => if q.2.isSome then some q.1 else none
theorem mem_ways {o : Office} {bk : Bool} (h : bk ∈ ways o) : (if bk = true then o.2 else o.1) ≠ none := by
  obtain ⟨a, b⟩ := o
  cases a <;> cases b <;> cases bk <;> simp_all [ways]
theorem ways_ne {o : Office} (h : o.1 ≠ none ∨ o.2 ≠ none) : ways o ≠ [] := by
  obtain ⟨a, b⟩ := o
  cases a <;> cases b <;> simp_all [ways]
/-- an exchange is drawn -/
def ExS (P : Program) (w : World) (K : PySem.W.Frag) (mg : Str → Option Value) (base : Heap) (W : Wd) (b : Bag) (bk : Bool) (i : Nat) (n : Int) (b' : Bag) : Prop :=
  ∃ o g1 g2 g3 m v, W.offices[i]? = some o ∧ CalB P w K mg base 1 "_law_take" (bL b) [.int (W.offices.length : Int)] (.int i) (bL g1) ∧
    CalB P w K mg base 2 "_law_of" (bL g1) [.list ((ways o).map fun k => .str (wayS k))] (.str (wayS bk)) (bL g2) ∧ CalB P w K mg base 2 "_law_of" (bL g2) [.list [.int 3, .int 12]] (.int m) (bL g3) ∧
    CalB P w K mg base 1 "_law_take" (bL g3) [.int m] (.int v) (bL b') ∧ n = 1 + v
theorem ex_ex (E : En K mg) {W : Wd} (hW : WOk W) {b : Bag} (hb : Bg b) : ∃ bk i n b', DOk W (.ex bk i n) ∧ Bg b' ∧ ExS P w K mg base W b bk i n b' := by
  have hl := List.length_pos_iff.mpr hW.o2
  have hl2 := hW.o1
  obtain ⟨v, g1, hv, hb1, c1⟩ := c_take (P := P) (w := w) (base := base) E hb (m := (W.offices.length : Int)) (by omega) (by omega)
  obtain ⟨i, rfl⟩ := Int.eq_ofNat_of_zero_le hv.1
  have hi : i < W.offices.length := by omega
  have hg := List.getElem?_eq_getElem hi
  have ho := hW.o _ (List.getElem_mem hi)
  generalize W.offices[i] = o at hg ho
  have hlw : (ways o).length ≤ 1000 := by
    have := List.length_filterMap_le (fun q : Bool × Option Ru => if q.2.isSome then some q.1 else none) [(false, o.1), (true, o.2)]
    simp only [List.length_cons, List.length_nil] at this
    unfold ways
    omega
  obtain ⟨x, g2, hx, hb2, c2⟩ := c_of (P := P) (w := w) (base := base) E hb1 ((ways o).map fun k => .str (wayS k)) (fun z => ways_ne ho.s (List.map_eq_nil_iff.mp z)) (by rw [List.length_map]; exact hlw)
  obtain ⟨bk, hbk, rfl⟩ := List.mem_map.mp hx
  obtain ⟨y, g3, hy, hb3, c3⟩ := c_of (P := P) (w := w) (base := base) E hb2 [.int 3, .int 12] nofun (by decide)
  obtain ⟨m, rfl, hm⟩ : ∃ s : Int, y = .int s ∧ 0 < s ∧ s ≤ 12 := by
    simp only [List.mem_cons, List.not_mem_nil, or_false] at hy
    rcases hy with rfl | rfl <;> exact ⟨_, rfl, by decide, by decide⟩
  obtain ⟨u, g4, hu, hb4, c4⟩ := c_take (P := P) (w := w) (base := base) E hb3 (m := m) (by omega) (by omega)
  have hs := mem_ways hbk
  have e : (if bk = true then o.2 else o.1) = some (W.rule i bk) := by
    unfold Wd.rule
    rw [List.getD_eq_getElem?_getD, hg, Option.getD_some]
    generalize (if bk = true then o.2 else o.1) = z at hs ⊢
    cases z with
    | none => exact absurd rfl hs
    | some u => rfl
  refine ⟨bk, i, 1 + u, g4, ⟨⟨o, hg, e⟩, ?_, ⟨by omega, by omega⟩⟩, hb4, o, g1, g2, g3, m, u, hg, c1, c2, c3, c4, rfl⟩
  cases bk with
  | true => exact (ho.b _ e).k
  | false => exact (ho.a _ e).k
theorem ex_go (E : En K mg) {W : Wd} {b b' : Bag} {bk : Bool} {i : Nat} {n : Int} (h : ExS P w K mg base W b bk i n b') {f : Addr} {cdv : Value} {A : Around} {outer : List Env} {s' : Shared} {H : Hp} {Ex : XK} {G : Fr0} (hr : Room 3 (XD P w K mg base f cdv A outer s' H Ex).A) :
    DB (XD P w K mg base f cdv A outer s' H Ex) G (R0 W b) ((defBody (top 89)).drop 2) (.rt (eD (.ex bk i n)) (bL b')) := by
  have nd := sc_law_deed.nd
  obtain ⟨o, g1, g2, g3, m, v, hg, c1, c2, c3, c4, rfl⟩ := h
  have hat : atI (W.offices.map eOff) (i : Int) = some (eOff o) := atI_nat (by rw [List.getElem?_map, hg]; rfl)
  refine bC (r1 := [.m false (bL g1), .d (eW W), .d (.tuple (W.offices.map eOff)), .d (.tuple (W.shops.map eShop)), .d (.int i), .u, .u, .u, .u, .u, .u]) (sSet 4 (dCallB 0 c1 (hr.mono (by decide)) (aC (dTo (dLen (xs := W.offices.map eOff) E.b_len (.inr rfl) (aC (dv 2) aN)) (by rw [List.length_map])) aN)) nd) ?_
  refine bC (r1 := [.m false (bL g1), .d (eW W), .d (.tuple (W.offices.map eOff)), .d (.tuple (W.shops.map eShop)), .d (.int i), .u, .u, .u, .u, .d (.list ((ways o).map fun k => .str (wayS k))), .u])
    (sLc 9 (own := [("_law_word_here", 7), ("_law_part", 10)]) (ys := (ways o).map fun k => .str (wayS k)) (r2 := [.m false (bL g1), .d (eW W), .d (.tuple (W.offices.map eOff)), .d (.tuple (W.shops.map eShop)), .d (.int i), .u, .u, .u, .u, .u, .u])
      (iTo (iL (dLst (by show 2 ≤ sizeLine; decide) (aC (dTup2 (aC ds (aC (dI (xs := [eORu o.1, eORu o.2]) (dIxT (x := eOff o) hat (dv 2) (dv 4)) di) aN))) (aC (dTup2 (aC ds (aC (dI (xs := [eORu o.1, eORu o.2]) (dIxT (x := eOff o) hat (dv 2) (dv 4)) di) aN))) aN))))
        (ys := [(false, o.1), (true, o.2)].map fun q => .tuple [.str (wayS q.1), eORu q.2]) rfl) (noM rfl) (comp_acc (fun q : Bool × Option Ru => .tuple [.str (wayS q.1), eORu q.2]) (fun k => .str (wayS k)) _ _ fun q _ => ?_) (show 2 ≤ sizeLine by decide) nd (by rfl) (by rfl)) ?_
  · obtain ⟨k, z⟩ := q
    cases z with
    | none =>
      exact cIf (k := false) (y := .none) (ra := [.m false (bL g1), .d (eW W), .d (.tuple (W.offices.map eOff)), .d (.tuple (W.shops.map eShop)), .d (.int i), .u, .u, .d (.str (wayS k)), .u, .u, .d .none]) (rc := [.m false (bL g1), .d (eW W), .d (.tuple (W.offices.map eOff)), .d (.tuple (W.shops.map eShop)), .d (.int i), .u, .u, .d (.str (wayS k)), .u, .u, .d .none])
        (fun _ _ _ _ _ _ => gTu (gC (gNm 7 nd) (gC (gNm 10 nd) gN))) (fun _ _ _ _ _ _ => tNotN' (x := .none) (dv 10)) nofun (by decide) rfl rfl
    | some u =>
      exact cIf (k := true) (y := .str (wayS k)) (ra := [.m false (bL g1), .d (eW W), .d (.tuple (W.offices.map eOff)), .d (.tuple (W.shops.map eShop)), .d (.int i), .u, .u, .d (.str (wayS k)), .u, .u, .d (eRu u)]) (rc := [.m false (bL g1), .d (eW W), .d (.tuple (W.offices.map eOff)), .d (.tuple (W.shops.map eShop)), .d (.int i), .u, .u, .d (.str (wayS k)), .u, .u, .d (eRu u)])
        (fun _ _ _ _ _ _ => gTu (gC (gNm 7 nd) (gC (gNm 10 nd) gN))) (fun _ _ _ _ _ _ => tNotN' (x := eRu u) (dv 10)) (fun _ _ _ _ _ _ _ => dv 7) (by decide) rfl rfl
  exact b1 (sRet (r1 := [.m false (bL b'), .d (eW W), .d (.tuple (W.offices.map eOff)), .d (.tuple (W.shops.map eShop)), .d (.int i), .u, .u, .u, .u, .d (.list ((ways o).map fun k => .str (wayS k))), .u])
    (dTup3 (aC (r1 := [.m false (bL g2), .d (eW W), .d (.tuple (W.offices.map eOff)), .d (.tuple (W.shops.map eShop)), .d (.int i), .u, .u, .u, .u, .d (.list ((ways o).map fun k => .str (wayS k))), .u]) (dCallB 0 c2 (hr.mono (by decide)) (aC (dv 9) aN)) (aC (dv 4)
      (aC (dAdd di (dCallB 0 c4 (hr.mono (by decide)) (aC (dCallB 0 c3 (hr.mono (by decide)) (aC (dLst (lst_len (by decide)) (aC di (aC di aN))) aN)) aN))) aN)))))
theorem sh_shops (l : List Shop) : SeqAt.shaped (.tuple (l.map eShop)) = true := by
  have b := lay_Shops l
  have : (PyData.tuple (l.map eShop)).depth ≤ 64 := by
    simp only [PyData.depth]
    omega
  simp [SeqAt.shaped, this]
  simp [PyData.canLay0, b.1]
def wordsOf (k : Bool) : List PyData := if k then [.str "buy", .str "buy", .str "over", .str "return", .str "return"] else [.str "buy", .str "buy", .str "over"]
abbrev R1 (W : Wd) (b : Bag) (i : Nat) (u : Int) (x : PyData) : Rho := [.m false (bL b), .d (eW W), .d (.tuple (W.offices.map eOff)), .d (.tuple (W.shops.map eShop)), .d (.int i), .d (.int (1 + u)), .d (.list (wordsOf (W.shop i).2.2)), .d x, .u, .u, .u]
def lastE : Expr := match (defBody (top 89)).getD 1 (.Pass ⟨0, 0, 0, 0⟩) with
  | .If _ A _ _ => match A.getD 3 (.Pass ⟨0, 0, 0, 0⟩) with
    | .Assign _ e _ => e
    | _ => .Constant .none 0 ⟨0, 0, 0, 0⟩
  | _ => .Constant .none 0 ⟨0, 0, 0, 0⟩
theorem c_law_deed (E : En K mg) {W : Wd} (hW : WOk W) {b : Bag} (hb : Bg b) : ∃ d b', DOk W d ∧ Bg b' ∧ CalB P w K mg base 4 "_law_deed" (bL b) [eW W] (eD d) (bL b') := by
  have nd := sc_law_deed.nd
  have sz := sizeLine_eq
  by_cases hs : W.shops = []
  · obtain ⟨bk, i, n, b', h1, h2, h3⟩ := ex_ex (P := P) (w := w) (base := base) E hW hb
    refine ⟨_, b', h1, h2, law_deed_go E fun f cdv A outer s' H Ex G hr => ?_⟩
    exact bIf (k := false) (tW (wAndF (tNe (x := .tuple (W.shops.map eShop)) (y := .tuple []) (by have := u65 hr; omega) (sh_shops _) (by decide +kernel) (by rw [hs]; rfl) (dv 3) (dr dTup0)))) (fun h => absurd h (by decide)) fun _ => br0 (ex_go E h3 hr)
  have hl := List.length_pos_iff.mpr hs
  have hl2 := hW.s1
  have hne : (!PyData.eqv (.tuple (W.shops.map eShop)) (.tuple [])) = true := by
    cases he : W.shops with
    | nil => exact absurd he hs
    | cons s l => simp [PyData.eqv, PyData.eqvAll]
  obtain ⟨v, g1, hv, hb1, c1⟩ := c_take (P := P) (w := w) (base := base) E hb (m := 2) (by decide) (by decide)
  by_cases h0 : v ≠ 0
  · obtain ⟨bk, i, n, b', h1, h2, h3⟩ := ex_ex (P := P) (w := w) (base := base) E hW hb1
    refine ⟨_, b', h1, h2, law_deed_go E fun f cdv A outer s' H Ex G hr => ?_⟩
    exact bIf (k := (v == 0)) (r1 := R0 W g1) (tW (wAndT (tNe (x := .tuple (W.shops.map eShop)) (y := .tuple []) (by have := u65 hr; omega) (sh_shops _) (by decide +kernel) hne (dv 3) (dr dTup0)) (wAnd1 (tEqI (dCallB 0 c1 (hr.mono (by decide)) (aC di aN)) di)))) (fun h => absurd (by simpa using h) h0) fun _ => br0 (ex_go E h3 hr)
  have h0 : v = 0 := by omega
  subst h0
  obtain ⟨v, g2, hv, hb2, c2⟩ := c_take (P := P) (w := w) (base := base) E hb1 (m := (W.shops.length : Int)) (by omega) (by omega)
  obtain ⟨i, rfl⟩ := Int.eq_ofNat_of_zero_le hv.1
  have hi : i < W.shops.length := by omega
  have hg := List.getElem?_eq_getElem hi
  have ho := hW.s _ (List.getElem_mem hi)
  have es : W.shop i = W.shops[i] := by
    unfold Wd.shop
    rw [List.getD_eq_getElem?_getD, hg, Option.getD_some]
  rw [← es] at hg ho
  have hat : atI (W.shops.map eShop) (i : Int) = some (eShop (W.shop i)) := atI_nat (by rw [List.getElem?_map, hg]; rfl)
  obtain ⟨y, g3, hy, hb3, c3⟩ := c_of (P := P) (w := w) (base := base) E hb2 [.int 2, .int 12] nofun (by decide)
  obtain ⟨m, rfl, hm⟩ : ∃ s : Int, y = .int s ∧ 0 < s ∧ s ≤ 12 := by
    simp only [List.mem_cons, List.not_mem_nil, or_false] at hy
    rcases hy with rfl | rfl <;> exact ⟨_, rfl, by decide, by decide⟩
  obtain ⟨u, g4, hu, hb4, c4⟩ := c_take (P := P) (w := w) (base := base) E hb3 (m := m) (by omega) (by omega)
  obtain ⟨x, g5, hx, hb5, c5⟩ := c_of (P := P) (w := w) (base := base) E hb4 (wordsOf (W.shop i).2.2) (by cases (W.shop i).2.2 <;> exact nofun) (by cases (W.shop i).2.2 <;> decide)
  have key : ∀ (d : Deed) (y : PyData) (b' : Bag), eD d = .tuple [x, .int i, .int (1 + u), y] →
      (∀ (f : Addr) (cdv : Value) (A : Around) (outer : List Env) (s' : Shared) (H : Hp) (Ex : XK) (G : Fr0), Room 3 (XD P w K mg base f cdv A outer s' H Ex).A →
        DE (XD P w K mg base f cdv A outer s' H Ex) G (R1 W g5 i u x) lastE y (R1 W b' i u x)) → CalB P w K mg base 4 "_law_deed" (bL b) [eW W] (eD d) (bL b') := by
    intro d y b' ed hy
    refine law_deed_go E fun f cdv A outer s' H Ex G hr => ?_
    refine bIf (k := true) (r1 := R0 W g1) (tW (wAndT (tNe (x := .tuple (W.shops.map eShop)) (y := .tuple []) (by have := u65 hr; omega) (sh_shops _) (by decide +kernel) hne (dv 3) (dr dTup0)) (wAnd1 (tTo (tEqI (dCallB 0 c1 (hr.mono (by decide)) (aC di aN)) di) rfl)))) (fun _ => brR ?_) fun h => absurd h (by decide)
    refine bC (r1 := [.m false (bL g4), .d (eW W), .d (.tuple (W.offices.map eOff)), .d (.tuple (W.shops.map eShop)), .d (.int i), .d (.int (1 + u)), .u, .u, .u, .u, .u]) (sPar 4 5 (x := .int i) (y := .int (1 + u)) (aC (r1 := R0 W g2) (dCallB 0 c2 (hr.mono (by decide)) (aC (dTo (dLen (xs := W.shops.map eShop) E.b_len (.inr rfl) (aC (dv 3) aN)) (by rw [List.length_map])) aN))
      (aC (r1 := R0 W g4) (dAdd di (dCallB 0 c4 (hr.mono (by decide)) (aC (dCallB 0 c3 (hr.mono (by decide)) (aC (dLst (by show 2 ≤ sizeLine; decide) (aC di (aC di aN))) aN)) aN))) aN)) nd) ?_
    refine bC (r1 := [.m false (bL g4), .d (eW W), .d (.tuple (W.offices.map eOff)), .d (.tuple (W.shops.map eShop)), .d (.int i), .d (.int (1 + u)), .d (.list (wordsOf (W.shop i).2.2)), .u, .u, .u, .u]) (sSet 6 (dTo (dCatL (xs := [.str "buy", .str "buy", .str "over"]) (ys := (List.replicate (2 * (if (W.shop i).2.2 = true then 1 else 0) : Int).toNat [PyData.str "return"]).flatten) ?_ (dLst (by show 3 ≤ sizeLine; decide) (aC ds (aC ds (aC ds aN))))
      (dRepL (by show 1 ≤ sizeLine; decide) ?_ ?_ (aC ds aN) (dMul (by simp only [CMul]; omega) di (dIntB E.b_int (aC (dI (xs := [eRo (W.shop i).1, eRo (W.shop i).2.1, .bool (W.shop i).2.2]) (dIxT (x := eShop (W.shop i)) hat (dv 3) (dv 4)) di) aN))))) ?_) nd) ?_
    · cases (W.shop i).2.2
      · show 3 ≤ sizeLine; decide
      · show 5 ≤ sizeLine; decide
    · cases (W.shop i).2.2 <;> decide
    · cases (W.shop i).2.2
      · show 0 ≤ sizeLine; decide
      · show 2 ≤ sizeLine; decide
    · cases (W.shop i).2.2 <;> rfl
    refine bC (r1 := R1 W g5 i u x) (sSet 7 (dCallB 0 c5 (hr.mono (by decide)) (aC (dv 6) aN)) nd) ?_
    refine bC (r1 := [.m false (bL b'), .d (eW W), .d (.tuple (W.offices.map eOff)), .d (.tuple (W.shops.map eShop)), .d (.int i), .d (.int (1 + u)), .d (.list (wordsOf (W.shop i).2.2)), .d x, .d y, .u, .u]) (sSet 8 (r1 := R1 W b' i u x) (hy f cdv A outer s' H Ex G hr) nd) ?_
    rw [ed]
    exact b1 (sRet (dTup4 (aC (dv 7) (aC (dv 4) (aC (dv 5) (aC (dv 8) aN))))))
  have am : Am (1 + u) := ⟨by omega, by omega⟩
  by_cases hov : x = .str "over"
  · subst hov
    obtain ⟨v, g6, hv, hb6, c6⟩ := c_take (P := P) (w := w) (base := base) E hb5 (m := 12) (by decide) (by decide)
    exact ⟨.over i (1 + u) (1 + v), g6, ⟨hg, ⟨ho.a.k, ho.b.k⟩, am, ⟨by omega, by omega⟩⟩, hb6, key _ (.int (1 + v)) g6 rfl fun f cdv A outer s' H Ex G hr => dIf' (tEqS (p := "over") (dv 7) ds) (fun _ => dAdd di (dCallB 0 c6 (hr.mono (by decide)) (aC di aN))) fun h => absurd h (by decide)⟩
  · obtain ⟨z, g6, hz, hb6, c6⟩ := c_of (P := P) (w := w) (base := base) E hb5 [.str "home", .str "far"] nofun (by decide)
    obtain ⟨hm, rfl⟩ : ∃ hm : Bool, z = .str (homeS hm) := by
      simp only [List.mem_cons, List.not_mem_nil, or_false] at hz
      rcases hz with rfl | rfl
      · exact ⟨true, rfl⟩
      · exact ⟨false, rfl⟩
    have hx2 : x = .str "buy" ∨ (x = .str "return" ∧ (W.shop i).2.2 = true) := by
      cases hk : (W.shop i).2.2 with
      | true =>
        rw [hk] at hx
        simp only [wordsOf, if_true, List.mem_cons, List.not_mem_nil, or_false] at hx
        rcases hx with rfl | rfl | rfl | rfl | rfl
        · exact .inl rfl
        · exact .inl rfl
        · exact absurd rfl hov
        · exact .inr ⟨rfl, rfl⟩
        · exact .inr ⟨rfl, rfl⟩
      | false =>
        rw [hk] at hx
        simp only [wordsOf, Bool.false_eq_true, if_false, List.mem_cons, List.not_mem_nil, or_false] at hx
        rcases hx with rfl | rfl | rfl
        · exact .inl rfl
        · exact .inl rfl
        · exact absurd rfl hov
    rcases hx2 with rfl | ⟨rfl, hk⟩
    · exact ⟨.buy i (1 + u) hm, g6, ⟨hg, ⟨ho.a.k, ho.b.k⟩, am⟩, hb6, key _ (.str (homeS hm)) g6 rfl fun f cdv A outer s' H Ex G hr => dIf' (tEqS (p := "buy") (dv 7) ds) (fun h => absurd h (by decide)) fun _ => dCallB 0 c6 (hr.mono (by decide)) (aC (dLst (by show 2 ≤ sizeLine; decide) (aC ds (aC ds aN))) aN)⟩
    · exact ⟨.ret i (1 + u) hm, g6, ⟨hg, ⟨ho.a.k, ho.b.k⟩, am, hk⟩, hb6, key _ (.str (homeS hm)) g6 rfl fun f cdv A outer s' H Ex G hr => dIf' (tEqS (p := "return") (dv 7) ds) (fun h => absurd h (by decide)) fun _ => dCallB 0 c6 (hr.mono (by decide)) (aC (dLst (by show 2 ≤ sizeLine; decide) (aC ds (aC ds aN))) aN)⟩
theorem sc_law_script : Sc ["_law_bag_here", "_law_world_here", "_law_most", "_law_turn"] ["_law_bag_here", "_law_world_here", "_law_most"] 90 := ⟨rfl, rfl, rfl, by decide +kernel, rfl, by decide +kernel, by decide +kernel⟩
theorem c_law_script (E : En K mg) {W : Wd} (hW : WOk W) {b : Bag} (hb : Bg b) {most : Int} (h0 : 0 ≤ most) (h1 : most ≤ 7) : ∃ ds b', (∀ d ∈ ds, DOk W d) ∧ (ds.length : Int) ≤ most ∧ Bg b' ∧ CalB P w K mg base 5 "_law_script" (bL b) [eW W, .int most] (eDs ds) (bL b') := by
  obtain ⟨f, fd, F, hm⟩ := E.f__law_script
  have nd := sc_law_script.nd
  have sz := sizeLine_eq
  obtain ⟨v, g1', hv, hb1, c1⟩ := c_take (P := P) (w := w) (base := base) E hb (m := most + 1) (by omega) (by omega)
  obtain ⟨ds, g2', ho, hoq, hb2, ro⟩ := run_ex (S := fun b d b' => CalB P w K mg base 4 "_law_deed" (bL b) [eW W] (eD d) (bL b')) (fun b hb => c_law_deed (P := P) (w := w) (base := base) E hW hb) v.toNat g1' hb1
  refine ⟨ds, g2', hoq, by omega, hb2, ?_⟩
  refine calB_of F sc_law_script hm (fun _ _ _ _ _ _ us hl => match us, hl with | [_, _, _], _ => rfl) rfl (by decide) nofun fun f cdv A outer s' H Ex G hr => ?_
  refine b1 (sRet (r1 := [.m false (bL g2'), .d (eW W), .d (.int most), .u]) (dTupOf E.b_tuple (dLc (own := [("_law_turn", 3)]) (r1 := [.m false (bL g1'), .d (eW W), .d (.int most), .u]) (r2 := [.m false (bL g2'), .d (eW W), .d (.int most), .u])
    (iTo (iR1 E.b_range (aC (dCallB 0 c1 (hr.mono (by decide)) (aC (dAdd (dv 2) di) aN)) aN) (by omega)) (rgD_ints _)) (noM rfl)
    (comp_run (S := fun b d b' => CalB P w K mg base 4 "_law_deed" (bL b) [eW W] (eD d) (bL b')) eD (fun b => [.m false (bL b), .d (eW W), .d (.int most), .u]) (fun b d b' i hS => cTake (rc := [.m false (bL b'), .d (eW W), .d (.int most), .d (.int i)]) (fun _ _ _ _ _ _ => gNm 3 nd) (by decide) (fun _ _ _ _ _ _ => dCallB 0 hS hr (aC (dv 1) aN))) ro _ (by rw [List.length_map, List.length_range, ho])) (by rw [List.length_map, List.length_map, List.length_range]; omega) nd (by rfl))))
end Kx
end Sec_LD
section Sec_LF
set_option maxRecDepth 100000
/-! The law's numbers. -/
namespace Kx
open PySem PySem.Spec PyProof.Rows L2 DL AM
variable {P : Program} {w : World} {K : PySem.W.Frag} {mg : Str → Option Value} {base : Heap}
theorem nz_pos {x : Int} (h : 0 ≤ x) (hc : (!(x == 0)) = true) : 0 < x := by
  have : x ≠ 0 := by simpa using hc
  omega
theorem sc_law_lowest : Sc ["_law_top", "_law_below", "_law_one", "_law_other"] ["_law_top", "_law_below"] 91 := ⟨rfl, rfl, rfl, by decide +kernel, rfl, by decide +kernel, by decide +kernel⟩
theorem c_law_lowest (E : En K mg) {t b : Int} (hb : 0 < b) (hb2 : b < 2 ^ 200) : Cal P w K mg base 1 "_law_lowest" [.int t, .int b] (eR (lowest t b)) := by
  obtain ⟨f, fd, F, hm⟩ := E.f__law_lowest
  have nd := sc_law_lowest.nd
  refine cal_of (bg := []) F sc_law_lowest hm (fun _ _ _ _ _ _ us hl => match us, hl with | [_, _], _ => rfl) rfl (by decide) fun f cdv A outer s H Ex G hr => ?_
  have hg := gcd_pos (t := t) hb
  have hg2 := gcd_le (t := t) hb
  refine bC (sPar 2 3 (aC (dAbs E.b_abs (aC (dv 0) aN)) (aC (dTo (y := .int b) (dAbs E.b_abs (aC (dv 1) aN)) (by rw [if_neg (by omega)])) aN)) nd) ?_
  refine bC (r1 := [.d (.int t), .d (.int b), .d (.int (gcdI t b)), .d (.int 0)]) (sWh (n := b.toNat) ?_) ?_
  · have h := whR_fn (S := Int × Int) (T := ?_) (B := ?_) (fun s => [.d (.int t), .d (.int b), .d (.int s.1), .d (.int s.2)]) (fun s => 0 ≤ s.1 ∧ 0 ≤ s.2) (fun s => !(s.2 == 0)) (fun s => (s.2, s.1 % s.2)) (fun s => (gcdI s.1 s.2, 0)) (fun s => s.2.toNat) ?_ ?_ ?_ ?_ ?_ ?_
      b.toNat (if t < 0 then -t else t, b) ⟨by show 0 ≤ (if t < 0 then -t else t); split <;> omega, Int.le_of_lt hb⟩ (Nat.le_refl _)
    · dsimp only at h
      rw [gcd_abs] at h
      exact h
    · exact fun s _ => tNeI (dv 3) di
    · exact fun s hs hc => b1 (sPar 2 3 (aC (dv 3) (aC (dMod (nz_pos hs.2 hc) (dv 2) (dv 3)) aN)) nd)
    · exact fun s hs hc => ⟨hs.2, Int.emod_nonneg _ (by simpa using hc)⟩
    · intro s hs hc
      have h : s.2 ≠ 0 := by simpa using hc
      have h0 := hs.2
      have h1 := Int.emod_nonneg s.1 (b := s.2) (by omega)
      have h2 := Int.emod_lt_of_pos s.1 (show 0 < s.2 by omega)
      dsimp only
      omega
    · intro s hs hc
      have e : s.2 = 0 := by simpa using hc
      exact Prod.ext (by dsimp only; rw [e]; exact gcd_zero hs.1) e.symm
    · intro s hs hc
      have h : s.2 ≠ 0 := by simpa using hc
      have h0 := hs.2
      dsimp only
      rw [gcd_step hs.1 (by omega)]
  · exact b1 (sRet (dTup2 (aC (dDiv (cdiv hg (by omega)) (dv 0) (dv 2)) (aC (dDiv (cdiv hg (by omega)) (dv 1) (dv 2)) aN))))
theorem sc_law_rounded : Sc ["_law_mode", "_law_step", "_law_top", "_law_below", "_law_found", "_law_low", "_law_rest"] ["_law_mode", "_law_step", "_law_top", "_law_below"] 92 := ⟨rfl, rfl, rfl, by decide +kernel, rfl, by decide +kernel, by decide +kernel⟩
theorem c_law_rounded (E : En K mg) {m : Mode} {s t b : Int} (hs : 0 < s) (hs2 : s ≤ 10) (hb : 0 < b) (hb2 : b < 2 ^ 60) (ht : 0 ≤ t) : Cal P w K mg base 1 "_law_rounded" [.str (ms m), .int s, .int t, .int b] (.int (rounded m s t b)) := by
  obtain ⟨f, fd, F, hm⟩ := E.f__law_rounded
  have nd := sc_law_rounded.nd
  refine cal_of (bg := []) F sc_law_rounded hm (fun _ _ _ _ _ _ us hl => match us, hl with | [_, _, _, _], _ => rfl) rfl (by decide) fun f cdv A outer s' H Ex G hr => ?_
  have k1 : 0 < s * b := Int.mul_pos hs hb
  have k2 : s * b < 11 * 2 ^ 60 := mul_lt' (by omega) (by omega) (by omega) hb2
  have c1 : ∀ x, CMul s x := fun x => by simp only [CMul]; omega
  have c3 : ∀ x, CMul x b := fun x => by simp only [CMul]; omega
  by_cases h9 : m = .nine
  · subst h9
    refine bIf (k := true) (tTo (tEqS (dv 0) ds) (by decide)) (fun _ => brR ?_) fun h => absurd h (by decide)
    have hk1 := nine_pos (t := t) hs hb ht
    refine bC (r1 := [.d (.str (ms .nine)), .d (.int s), .d (.int t), .d (.int b), .d (.int (1 * s - 1)), .u, .u]) (sSet 4 (dTo (dSub (dv 1) di) (by rw [Int.one_mul])) nd) ?_
    refine bC (r1 := [.d (.str (ms .nine)), .d (.int s), .d (.int t), .d (.int b), .d (.int (nineK s t b * s - 1)), .u, .u]) (sWh (n := (nineK s t b - 1).toNat) ?_) (b1 (sRet' (dv 4) rfl))
    refine whR_fn (S := Int) (fun k => [.d (.str (ms .nine)), .d (.int s), .d (.int t), .d (.int b), .d (.int (k * s - 1)), .u, .u]) (fun k => k ≤ nineK s t b) (fun k => decide ((k * s - 1) * b < t)) (fun k => k + 1) (fun _ => nineK s t b) (fun k => (nineK s t b - k).toNat) ?_ ?_ ?_ ?_ ?_ ?_ _ 1 hk1 (Nat.le_refl _)
    · exact fun k hk => tLt (dMul (c3 _) (dv 4) (dv 3)) (dv 2)
    · exact fun k hk hc => b1 (sSet 4 (dTo (dAdd (dv 4) (dv 1)) (by rw [Int.add_mul, Int.one_mul]; exact congrArg PyData.int (by omega))) nd)
    · intro k hk hc
      have := (nine_lt hs hb).mpr (of_decide_eq_true hc)
      omega
    · intro k hk hc
      have := (nine_lt hs hb).mpr (of_decide_eq_true hc)
      omega
    · intro k hk hc
      have h := of_decide_eq_false hc
      have : ¬ k < nineK s t b := fun z => h ((nine_lt hs hb).mp z)
      omega
    · intro k hk hc
      rfl
  have hk : (ms m == ("nine" : Str)) = false := by cases m <;> first | decide | exact absurd rfl h9
  refine bIf (k := false) (tTo (tEqS (dv 0) ds) hk) (fun h => absurd h (by decide)) fun _ => br0 ?_
  refine bC (r1 := [.d (.str (ms m)), .d (.int s), .d (.int t), .d (.int b), .u, .d (.int (s * (t / (s * b)))), .u]) (sSet 5 (dMul (c1 _) (dv 1) (dDiv (cdiv k1 (by omega)) (dv 2) (dMul (c1 _) (dv 1) (dv 3)))) nd) ?_
  refine bC (r1 := [.d (.str (ms m)), .d (.int s), .d (.int t), .d (.int b), .u, .d (.int (s * (t / (s * b)))), .d (.int (t % (s * b)))]) (sSet 6 (dTo (dSub (dv 2) (dMul (c3 _) (dv 5) (dv 3))) (by rw [rest_of])) nd) ?_
  refine bIf (tEqS (dv 0) ds) (fun h => brR (b1 (sRet' (dIf' (x := .int (if 0 < t % (s * b) then s * (t / (s * b)) + s else s * (t / (s * b)))) (tGt (dv 6) di) (fun h => dTo (dAdd (dv 5) (dv 1)) (by rw [if_pos (of_decide_eq_true h)])) (fun h => dTo (dv 5) (by rw [if_neg (of_decide_eq_false h)]))) ?_))) fun h1 => br0 ?_
  · rw [law_up hs hb]
    cases m <;> first | rfl | (exact absurd h (by decide))
  refine bIf (tEqS (dv 0) ds) (fun h => brR (b1 (sRet' (dIf' (x := .int (if s * b ≤ 2 * (t % (s * b)) then s * (t / (s * b)) + s else s * (t / (s * b)))) (tGe (dMul (by simp only [CMul]; omega) di (dv 6)) (dMul (c1 _) (dv 1) (dv 3))) (fun h => dTo (dAdd (dv 5) (dv 1)) (by rw [if_pos (of_decide_eq_true h)])) (fun h => dTo (dv 5) (by rw [if_neg (of_decide_eq_false h)]))) ?_))) fun h2 => br0 ?_
  · rw [law_near hs hb]
    cases m <;> first | rfl | (exact absurd h (by decide))
  refine b1 (sRet' (dv 5) ?_)
  rw [law_down]
  cases m <;> first | rfl | (exact absurd h1 (by decide)) | (exact absurd h2 (by decide)) | (exact absurd rfl h9)
structure Sl (r : Rate) : Prop where
  p : 0 < r.1
  q : 0 < r.2
  P : r.1 < 2 ^ 40
  Q : r.2 < 2 ^ 40
theorem Sl.sm {r : Rate} (h : Sl r) : Sm r := ⟨h.p, h.q, by have := h.P; omega, by have := h.Q; omega⟩
theorem sl_fall {b : Bool} {r : Rate} (h : Sl r) : Sl (fall b r) := by
  cases b
  · exact ⟨h.q, h.p, h.Q, h.P⟩
  · exact h
theorem sc_law_gives : Sc ["_law_rule_here", "_law_way", "_law_amount", "_law_rate", "_law_mode", "_law_step", "_law_charge", "_law_cut", "_law_top", "_law_below", "_law_found"] ["_law_rule_here", "_law_way", "_law_amount", "_law_rate"] 93 := ⟨rfl, rfl, rfl, by decide +kernel, rfl, by decide +kernel, by decide +kernel⟩
theorem c_law_gives (E : En K mg) {u : Ru} {bk : Bool} {n : Int} {r : Rate} (hu : RuOk u) (hn : 0 < n) (hn2 : n ≤ 12) (h : Sl r) : Cal P w K mg base 2 "_law_gives" [eRu u, .str (wayS bk), .int n, eR r] (.int (gives u bk n r)) := by
  obtain ⟨f, fd, F, hm⟩ := E.f__law_gives
  have nd := sc_law_gives.nd
  obtain ⟨s0, s1, c0, c1, k0, k1⟩ := hu
  have hf := sl_fall (b := bk) h
  obtain ⟨h1, h2, h3, h4⟩ := hf
  have c2 : ∀ x, CMul x (100 - u.k) := fun x => by simp only [CMul]; omega
  have c3 : ∀ x, CMul n x := fun x => by simp only [CMul]; omega
  have c4 : ∀ x, CMul 100 x := fun x => by simp only [CMul]; omega
  have k2 : 0 ≤ n * (fall bk r).1 * (100 - u.k) := Int.mul_nonneg (Int.mul_nonneg (by omega) (by omega)) (by omega)
  refine cal_of (bg := []) F sc_law_gives hm (fun _ _ _ _ _ _ us hl => match us, hl with | [_, _, _, _], _ => rfl) rfl (by decide) fun f cdv A outer s' H Ex G hr => ?_
  refine bC (r1 := [.d (eRu u), .d (.str (wayS bk)), .d (.int n), .d (eR r), .d (.str (ms u.m)), .d (.int u.s), .d (.int u.c), .d (.int u.k), .u, .u, .u]) (sAsg (dv 0) (gTu (gC (gNm 4 nd) (gC (gNm 5 nd) (gC (gNm 6 nd) (gC (gNm 7 nd) gN)))))) ?_
  refine bC (r1 := [.d (eRu u), .d (.str (wayS bk)), .d (.int n), .d (eR r), .d (.str (ms u.m)), .d (.int u.s), .d (.int u.c), .d (.int u.k), .d (.int (fall bk r).1), .d (.int (fall bk r).2), .u]) (sAsg (x := eR (fall bk r)) (r1 := [.d (eRu u), .d (.str (wayS bk)), .d (.int n), .d (eR r), .d (.str (ms u.m)), .d (.int u.s), .d (.int u.c), .d (.int u.k), .u, .u, .u])
    (dIf' (tEqS (dv 1) ds) (fun h => dTo (dv 3) ?_) (fun h => dTo (dRev (xs := [.int r.1, .int r.2]) (dv 3)) ?_)) (gTu (gC (gNm 8 nd) (gC (gNm 9 nd) gN)))) ?_
  · cases bk <;> first | rfl | (exact absurd h (by decide))
  · cases bk <;> first | rfl | (exact absurd h (by decide))
  refine bC (r1 := [.d (eRu u), .d (.str (wayS bk)), .d (.int n), .d (eR r), .d (.str (ms u.m)), .d (.int u.s), .d (.int u.c), .d (.int u.k), .d (.int (fall bk r).1), .d (.int (fall bk r).2), .d (.int (rounded u.m u.s (n * (fall bk r).1 * (100 - u.k)) (100 * (fall bk r).2) - u.c))])
    (sSet 10 (dSub (dCall (c_law_rounded E s0 s1 (show 0 < 100 * (fall bk r).2 by omega) (by omega) k2) hr (aC (dv 4) (aC (dv 5) (aC (dMul (c2 _) (dMul (c3 _) (dv 2) (dv 8)) (dSub di (dv 7))) (aC (dMul (c4 _) di (dv 9)) aN))))) (dv 6)) nd) ?_
  refine b1 (sRet' (dIf (tGt (dv 10) di) (fun _ => dv 10) (fun _ => di)) ?_)
  unfold gives
  rw [Int.mul_comm 100 (fall bk r).2]
  generalize rounded u.m u.s (n * (fall bk r).1 * (100 - u.k)) ((fall bk r).2 * 100) - u.c = x
  by_cases hx : 0 < x
  · rw [if_pos (decide_eq_true hx)]
    exact congrArg PyData.int (by omega)
  · rw [if_neg (by simpa using hx)]
    exact congrArg PyData.int (by omega)
theorem sc_law_tag : Sc ["_law_shop", "_law_price", "_law_rate"] ["_law_shop", "_law_price", "_law_rate"] 94 := ⟨rfl, rfl, rfl, by decide +kernel, rfl, by decide +kernel, by decide +kernel⟩
theorem c_law_tag (E : En K mg) {s : Shop} {n : Int} {r : Rate} (hs : ShOk s) (hn : 0 ≤ n) (h : Sl r) : Cal P w K mg base 2 "_law_tag" [eShop s, .int n, eR r] (.int (tag s n r)) := by
  obtain ⟨f, fd, F, hm⟩ := E.f__law_tag
  obtain ⟨⟨s0, s1⟩, _⟩ := hs
  obtain ⟨h1, h2, h3, h4⟩ := h
  refine cal_of (bg := []) F sc_law_tag hm (fun _ _ _ _ _ _ us hl => match us, hl with | [_, _, _], _ => rfl) rfl (by decide) fun f cdv A outer s' H Ex G hr => ?_
  exact b1 (sRet (dCall (c_law_rounded E s0 s1 h1 (by omega) (Int.mul_nonneg hn (by omega))) hr (aC (dI (xs := [.str (ms s.1.m), .int s.1.s]) (dI (xs := [eRo s.1, eRo s.2.1, .bool s.2.2]) (dv 0) di) di) (aC (dI (xs := [.str (ms s.1.m), .int s.1.s]) (dI (xs := [eRo s.1, eRo s.2.1, .bool s.2.2]) (dv 0) di) di)
    (aC (dMul (by simp only [CMul]; omega) (dv 1) (dI (xs := [.int r.1, .int r.2]) (dv 2) di)) (aC (dI (xs := [.int r.1, .int r.2]) (dv 2) di) aN))))))
theorem sc_law_number : Sc ["_law_world_here", "_law_deed_here", "_law_rate", "_law_shop", "_law_tag_here"] ["_law_world_here", "_law_deed_here", "_law_rate"] 95 := ⟨rfl, rfl, rfl, by decide +kernel, rfl, by decide +kernel, by decide +kernel⟩
theorem c_law_number (E : En K mg) {W : Wd} {d : Deed} {r : Rate} (hd : DOk W d) (h : Sl r) : Cal P w K mg base 3 "_law_number" [eW W, eD d, eR r] (eO .int (told W d r)) := by
  obtain ⟨f, fd, F, hm⟩ := E.f__law_number
  have nd := sc_law_number.nd
  have ⟨h1, h2, h3, h4⟩ := h
  refine cal_of (bg := []) F sc_law_number hm (fun _ _ _ _ _ _ us hl => match us, hl with | [_, _, _], _ => rfl) rfl (by decide) fun f cdv A outer s' H Ex G hr => ?_
  cases d with
  | ex bk i n =>
    have ⟨_, hu, hn⟩ := hd
    obtain ⟨o, hat, e⟩ := office_at hd
    refine bIf (k := true) (tIn (u65 hr) (.inl rfl) (sh_way bk) (by decide +kernel) way_in (dI (dv 1) di) (dLst (show 2 ≤ sizeLine by decide) (aC ds (aC ds aN)))) (fun _ => brR ?_) fun h => absurd h (by decide)
    refine b1 (sRet (dCall (c_law_gives E hu (by have := hn.lo; omega) hn.hi h) hr (aC (dIxT (xs := [eORu o.1, eORu o.2]) (x := eRu (W.rule i bk)) (i := if (wayS bk == "back") = true then 1 else 0) ?_ (dIxT (xs := W.offices.map eOff) (atI_nat hat) (dI (dv 0) di) (dI (dv 1) di)) (dIntB E.b_int (aC (dEqS (dI (dv 1) di) ds) aN))) (aC (dI (dv 1) di) (aC (dI (dv 1) di) (aC (dv 2) aN))))))
    rw [← e]
    cases bk <;> rfl
  | over i p m =>
    obtain ⟨g1, g2, g3, g4⟩ := hd
    have hat : atI (W.shops.map eShop) (i : Int) = some (eShop (W.shop i)) := atI_nat (shop_at g1)
    have hp := g3.lo
    refine bIf (k := false) (tIn (x := .str "over") (y := .list [.str "into", .str "back"]) (u65 hr) (.inl rfl) (by decide +kernel) (by decide +kernel) rfl (dI (dv 1) di) (dLst (show 2 ≤ sizeLine by decide) (aC ds (aC ds aN)))) (fun h => absurd h (by decide)) fun _ => br0 ?_
    refine bC (r1 := [.d (eW W), .d (eD (.over i p m)), .d (eR r), .d (eShop (W.shop i)), .u]) (sSet 3 (dIxT (xs := W.shops.map eShop) hat (dI (dv 0) di) (dI (dv 1) di)) nd) ?_
    refine bC (r1 := [.d (eW W), .d (eD (.over i p m)), .d (eR r), .d (eShop (W.shop i)), .d (.int (tag (W.shop i) p r))]) (sSet 4 (dCall (c_law_tag E g2 (by omega) h) (hr.mono (by decide)) (aC (dv 3) (aC (dI (dv 1) di) (aC (dv 2) aN)))) nd) ?_
    refine bIf (tEqS (p := "over") (dI (dv 1) di) ds) (fun _ => ?_) fun h => absurd h (by decide)
    by_cases hlt : m < tag (W.shop i) p r
    · refine brR (bIf (tLt (dI (dv 1) di) (dv 4)) (fun _ => brR (b1 (sRet' dn ?_))) fun h => absurd hlt (of_decide_eq_false h))
      simp only [told, if_pos hlt]
      rfl
    · refine brR (bIf (tLt (dI (dv 1) di) (dv 4)) (fun h => absurd (of_decide_eq_true h) hlt) fun _ => br0 (b1 (sRet' (dCall (c_law_rounded E g2.b.s0 g2.b.s1 h2 (by omega) (Int.mul_nonneg (show 0 ≤ m - tag (W.shop i) p r by omega) (Int.le_of_lt h1))) (hr.mono (by decide))
        (aC (dI (xs := [.str (ms (W.shop i).2.1.m), .int (W.shop i).2.1.s]) (dI (xs := [eRo (W.shop i).1, eRo (W.shop i).2.1, .bool (W.shop i).2.2]) (dv 3) di) di) (aC (dI (xs := [.str (ms (W.shop i).2.1.m), .int (W.shop i).2.1.s]) (dI (xs := [eRo (W.shop i).1, eRo (W.shop i).2.1, .bool (W.shop i).2.2]) (dv 3) di) di)
          (aC (dMul (by simp only [CMul]; omega) (dSub (dI (dv 1) di) (dv 4)) (dI (xs := [.int r.1, .int r.2]) (dv 2) di)) (aC (dI (xs := [.int r.1, .int r.2]) (dv 2) di) aN))))) ?_)))
      simp only [told, if_neg hlt]
      rfl
  | buy i p home =>
    obtain ⟨g1, g2, g3⟩ := hd
    have hat : atI (W.shops.map eShop) (i : Int) = some (eShop (W.shop i)) := atI_nat (shop_at g1)
    have hp := g3.lo
    refine bIf (k := false) (tIn (x := .str "buy") (y := .list [.str "into", .str "back"]) (u65 hr) (.inl rfl) (by decide +kernel) (by decide +kernel) rfl (dI (dv 1) di) (dLst (show 2 ≤ sizeLine by decide) (aC ds (aC ds aN)))) (fun h => absurd h (by decide)) fun _ => br0 ?_
    refine bC (r1 := [.d (eW W), .d (eD (.buy i p home)), .d (eR r), .d (eShop (W.shop i)), .u]) (sSet 3 (dIxT (xs := W.shops.map eShop) hat (dI (dv 0) di) (dI (dv 1) di)) nd) ?_
    refine bC (r1 := [.d (eW W), .d (eD (.buy i p home)), .d (eR r), .d (eShop (W.shop i)), .d (.int (tag (W.shop i) p r))]) (sSet 4 (dCall (c_law_tag E g2 (by omega) h) (hr.mono (by decide)) (aC (dv 3) (aC (dI (dv 1) di) (aC (dv 2) aN)))) nd) ?_
    refine bIf (tEqS (p := "buy") (dI (dv 1) di) ds) (fun h => absurd h (by decide)) fun _ => br0 ?_
    refine b1 (sRet' (dIf (tEqS (p := homeS home) (dI (dv 1) di) ds) (fun _ => dI (dv 1) di) (fun _ => dv 4)) ?_)
    cases home <;> rfl
  | ret i p home =>
    obtain ⟨g1, g2, g3, _⟩ := hd
    have hat : atI (W.shops.map eShop) (i : Int) = some (eShop (W.shop i)) := atI_nat (shop_at g1)
    have hp := g3.lo
    refine bIf (k := false) (tIn (x := .str "return") (y := .list [.str "into", .str "back"]) (u65 hr) (.inl rfl) (by decide +kernel) (by decide +kernel) rfl (dI (dv 1) di) (dLst (show 2 ≤ sizeLine by decide) (aC ds (aC ds aN)))) (fun h => absurd h (by decide)) fun _ => br0 ?_
    refine bC (r1 := [.d (eW W), .d (eD (.ret i p home)), .d (eR r), .d (eShop (W.shop i)), .u]) (sSet 3 (dIxT (xs := W.shops.map eShop) hat (dI (dv 0) di) (dI (dv 1) di)) nd) ?_
    refine bC (r1 := [.d (eW W), .d (eD (.ret i p home)), .d (eR r), .d (eShop (W.shop i)), .d (.int (tag (W.shop i) p r))]) (sSet 4 (dCall (c_law_tag E g2 (by omega) h) (hr.mono (by decide)) (aC (dv 3) (aC (dI (dv 1) di) (aC (dv 2) aN)))) nd) ?_
    refine bIf (tEqS (p := "return") (dI (dv 1) di) ds) (fun h => absurd h (by decide)) fun _ => br0 ?_
    refine b1 (sRet' (dIf (tEqS (p := homeS home) (dI (dv 1) di) ds) (fun _ => dI (dv 1) di) (fun _ => dv 4)) ?_)
    cases home <;> rfl
end Kx
end Sec_LF
section Sec_LG
set_option maxRecDepth 100000
/-! The law's ledger. -/
namespace Kx
open PySem PySem.Spec PyProof.Rows L2 DL AM
variable {P : Program} {w : World} {K : PySem.W.Frag} {mg : Str → Option Value} {base : Heap}
theorem sort_things (l : List Thing) (t : Thing) : (l ++ [t]).mergeSort (PySem.W.dataLe false eR) = withThing l t := by
  have e : PySem.W.dataLe false eR = leT := PySem.W.dataLe_ii (β := Thing) (fun t => t.1) (fun t => t.2)
  rw [e]
  rfl
theorem sc_law_done : Sc ["_law_stand", "_law_deed_here", "_law_number_here", "_law_home", "_law_far", "_law_having", "_law_there", "_law_thing", "_law_at", "_law_rest"] ["_law_stand", "_law_deed_here", "_law_number_here"] 96 := ⟨rfl, rfl, rfl, by decide +kernel, rfl, by decide +kernel, by decide +kernel⟩
theorem ite_c {α : Type} {c d : Prop} [Decidable c] [Decidable d] {a a' b b' : α} (h : c ↔ d) (ha : a = a') (hb : b = b') : (if c then a else b) = if d then a' else b' := by
  subst ha; subst hb
  by_cases hc : c
  · rw [if_pos hc, if_pos (h.mp hc)]
  · rw [if_neg hc, if_neg fun z => hc (h.mpr z)]
theorem ite_n {α : Type} {c d : Prop} [Decidable c] [Decidable d] {a a' b b' : α} (h : c ↔ ¬ d) (ha : a = a') (hb : b = b') : (if c then a else b) = if d then b' else a' := by
  subst ha; subst hb
  by_cases hc : c
  · rw [if_pos hc, if_neg (h.mp hc)]
  · rw [if_neg hc, if_pos (Decidable.byContradiction fun z => hc (h.mpr z))]
theorem st_eq {a b a' b' : Int} {l : List Thing} (h1 : a = a') (h2 : b = b') : some (Stand.mk a b l) = some ⟨a', b', l⟩ := by rw [h1, h2]
/-- what is left behind a deed with a number, in plain words -/
theorem behind_ex {st : Stand} {bk : Bool} {i : Nat} {n x : Int} (h1 : 0 ≤ st.home) (h2 : 0 ≤ st.far) (hx : 0 ≤ x) (hn : 0 ≤ n) :
    behind st (.ex bk i n) (some x) = if min (if bk = true then st.home + x else st.home - n) (if bk = true then st.far - n else st.far + x) < 0 then none else some ⟨if bk = true then st.home + x else st.home - n, if bk = true then st.far - n else st.far + x, st.things⟩ := by
  cases bk with
  | true =>
    simp only [behind, need, effect, Deed.lacks, newThings, if_true, Bool.false_eq_true, or_false]
    exact ite_c (by omega) rfl (st_eq rfl (by omega))
  | false =>
    simp only [behind, need, effect, Deed.lacks, newThings, Bool.false_eq_true, if_false, or_false]
    exact ite_c (by omega) rfl (st_eq (by omega) rfl)
theorem behind_over {st : Stand} {i : Nat} {p m x : Int} (h1 : 0 ≤ st.home) : behind st (.over i p m) (some x) = if m ≤ st.far then some ⟨st.home + x, st.far - m, withThing st.things ((i : Int), p)⟩ else none := by
  simp only [behind, need, effect, Deed.lacks, newThings, Bool.false_eq_true, or_false]
  exact ite_n (by omega) rfl (st_eq rfl (by omega))
theorem behind_buy {st : Stand} {i : Nat} {p x : Int} {home : Bool} (h1 : 0 ≤ st.home) (h2 : 0 ≤ st.far) (hx : 0 ≤ x) :
    behind st (.buy i p home) (some x) = if min (if home = true then st.home - x else st.home) (if home = true then st.far else st.far - x) < 0 then none else some ⟨if home = true then st.home - x else st.home, if home = true then st.far else st.far - x, withThing st.things ((i : Int), p)⟩ := by
  cases home with
  | true =>
    simp only [behind, need, effect, Deed.lacks, newThings, if_true, Bool.false_eq_true, or_false]
    exact ite_c (by omega) rfl (st_eq (by omega) (by omega))
  | false =>
    simp only [behind, need, effect, Deed.lacks, newThings, Bool.false_eq_true, if_false, or_false]
    exact ite_c (by omega) rfl (st_eq (by omega) (by omega))
theorem behind_ret {st : Stand} {i : Nat} {p x : Int} {home : Bool} (h1 : 0 ≤ st.home) (h2 : 0 ≤ st.far) (hx : 0 ≤ x) :
    behind st (.ret i p home) (some x) = if ((i : Int), p) ∈ st.things then some ⟨if home = true then st.home + x else st.home, if home = true then st.far else st.far + x, AM.without st.things ((i : Int), p)⟩ else none := by
  have key : ∀ a b : Int, a ≤ 0 → b ≤ 0 → ((st.home < max 0 a ∨ st.far < max 0 b ∨ decide (((i : Int), p) ∉ st.things) = true) ↔ ¬ ((i : Int), p) ∈ st.things) := fun a b ha hb => by
    rw [decide_eq_true_iff]
    constructor
    · rintro (h | h | h)
      · omega
      · omega
      · exact h
    · exact fun h => .inr (.inr h)
  cases home with
  | true =>
    simp only [behind, need, effect, Deed.lacks, newThings, if_true]
    exact ite_n (key _ _ (by omega) (by omega)) rfl (st_eq (by omega) (by omega))
  | false =>
    simp only [behind, need, effect, Deed.lacks, newThings, Bool.false_eq_true, if_false]
    exact ite_n (key _ _ (by omega) (by omega)) rfl (st_eq (by omega) (by omega))
structure StN (st : Stand) : Prop where
  h : 0 ≤ st.home
  f : 0 ≤ st.far
  n : st.things.length ≤ 50
theorem c_law_done (E : En K mg) {W : Wd} {st : Stand} {d : Deed} {x : Option Int} (hst : StN st) (hd : DOk W d) (hx : ∀ y, x = some y → 0 ≤ y) : Cal P w K mg base 1 "_law_done" [eStandL st, eD d, eO .int x] (eO eStandL (behind st d x)) := by
  obtain ⟨f, fd, F, hm⟩ := E.f__law_done
  have nd := sc_law_done.nd
  have sz := sizeLine_eq
  obtain ⟨h1, h2, h3⟩ := hst
  refine cal_of (bg := []) F sc_law_done hm (fun _ _ _ _ _ _ us hl => match us, hl with | [_, _, _], _ => rfl) rfl (by decide) fun f cdv A outer s' H Ex G hr => ?_
  refine bC (r1 := [.d (eStandL st), .d (eD d), .d (eO .int x), .d (.int st.home), .d (.int st.far), .d (.list (st.things.map eR)), .u, .u, .u, .u]) (sAsg (dv 0) (gTu (gC (gNm 3 nd) (gC (gNm 4 nd) (gC (gNm 5 nd) gN))))) ?_
  cases x with
  | none => exact bIf (k := true) (tIsN' (x := .none) (dv 2)) (fun _ => brR (b1 (sRet dn))) fun h => absurd h (by decide)
  | some x =>
  have hx0 := hx x rfl
  refine bIf (k := false) (tIsN' (x := .int x) (dv 2)) (fun h => absurd h (by decide)) fun _ => br0 ?_
  cases d with
  | ex bk i n =>
    have hn := hd.2.2.lo
    refine bIf (k := true) (tIn (x := .str (wayS bk)) (y := .list [.str "into", .str "back"]) (u65 hr) (.inl rfl) (sh_way bk) (by decide +kernel) way_in (dI (dv 1) di) (dLst (show 2 ≤ sizeLine by decide) (aC ds (aC ds aN)))) (fun _ => brR ?_) fun h => absurd h (by decide)
    refine bC (r1 := [.d (eStandL st), .d (eD (.ex bk i n)), .d (.int x), .d (.int st.home), .d (.int st.far), .d (.list (st.things.map eR)), .d (.tuple [.int (if bk = true then st.home + x else st.home - n), .int (if bk = true then st.far - n else st.far + x)]), .u, .u, .u])
      (sSet 6 (r1 := [.d (eStandL st), .d (eD (.ex bk i n)), .d (.int x), .d (.int st.home), .d (.int st.far), .d (.list (st.things.map eR)), .u, .u, .u, .u]) (dIf' (tEqS (p := wayS bk) (dI (dv 1) di) ds) (fun h => dTo (dTup2 (aC (dSub (dv 3) (dI (dv 1) di)) (aC (dAdd (dv 4) (dv 2)) aN))) ?_) (fun h => dTo (dTup2 (aC (dAdd (dv 3) (dv 2)) (aC (dSub (dv 4) (dI (dv 1) di)) aN))) ?_)) nd) ?_
    · cases bk <;> first | rfl | (exact absurd h (by decide))
    · cases bk <;> first | rfl | (exact absurd h (by decide))
    rw [behind_ex h1 h2 hx0 (by omega)]
    generalize (if bk = true then st.home + x else st.home - n) = a
    generalize (if bk = true then st.far - n else st.far + x) = b
    refine b1 (sRet' (dIf (tLt (dMinP E.b_min hr.units (dv 6)) di) (fun _ => dn) (fun _ => dCatT (xs := [.int a, .int b]) (ys := [.list (st.things.map eR)]) (show 3 ≤ sizeLine by decide) (dv 6) (dTup1 (dv 5)))) ?_)
    by_cases hc : min a b < 0
    · rw [if_pos (decide_eq_true hc), if_pos hc]; rfl
    · rw [if_neg (by simpa using hc), if_neg hc]; rfl
  | over i p m =>
    refine bIf (k := false) (tIn (x := .str "over") (y := .list [.str "into", .str "back"]) (u65 hr) (.inl rfl) (by decide +kernel) (by decide +kernel) rfl (dI (dv 1) di) (dLst (show 2 ≤ sizeLine by decide) (aC ds (aC ds aN)))) (fun h => absurd h (by decide)) fun _ => br0 ?_
    refine bC (r1 := [.d (eStandL st), .d (eD (.over i p m)), .d (.int x), .d (.int st.home), .d (.int st.far), .d (.list (st.things.map eR)), .u, .d (eR ((i : Int), p)), .u, .u]) (sSet 7 (dTup2 (aC (dI (dv 1) di) (aC (dI (dv 1) di) aN))) nd) ?_
    refine bIf (tEqS (p := "over") (dI (dv 1) di) ds) (fun h => absurd h (by decide)) fun _ => br0 ?_
    refine bC (r1 := [.d (eStandL st), .d (eD (.over i p m)), .d (.int x), .d (.int st.home), .d (.int st.far), .d (.list (st.things.map eR)), .u, .d (eR ((i : Int), p)), .u, .d (.list ((withThing st.things ((i : Int), p)).map eR))])
      (sSet 9 (r1 := [.d (eStandL st), .d (eD (.over i p m)), .d (.int x), .d (.int st.home), .d (.int st.far), .d (.list (st.things.map eR)), .u, .d (eR ((i : Int), p)), .u, .u]) (dTo (dSort (bs := st.things ++ [((i : Int), p)]) (enc := eR) E.b_sorted hr.units (fun a b => by simp [eR, PySem.W.alike, PySem.W.alikeAll]) (PySem.W.Sortable.tuples fun b => ⟨_, _, rfl⟩) (fun b => by simp [eR, PyData.depth, PyData.depthAll])
        (dTo (dCatL (by rw [List.length_map, sz]; show _ + 1 ≤ _; omega) (dv 5) (dLst1 (dv 7))) (map_snoc (e := eR) st.things ((i : Int), p)))) (by rw [sort_things])) nd) ?_
    refine bIf (tEqS (p := "over") (dI (dv 1) di) ds) (fun _ => brR ?_) fun h => absurd h (by decide)
    rw [behind_over h1]
    refine b1 (sRet' (dIf (tGe (dv 4) (dI (dv 1) di)) (fun _ => dTup3 (aC (dAdd (dv 3) (dv 2)) (aC (dSub (dv 4) (dI (dv 1) di)) (aC (dv 9) aN)))) (fun _ => dn)) ?_)
    by_cases hc : m ≤ st.far
    · rw [if_pos (decide_eq_true hc), if_pos hc]; rfl
    · rw [if_neg (by simpa using hc), if_neg hc]; rfl
  | buy i p home =>
    refine bIf (k := false) (tIn (x := .str "buy") (y := .list [.str "into", .str "back"]) (u65 hr) (.inl rfl) (by decide +kernel) (by decide +kernel) rfl (dI (dv 1) di) (dLst (show 2 ≤ sizeLine by decide) (aC ds (aC ds aN)))) (fun h => absurd h (by decide)) fun _ => br0 ?_
    refine bC (r1 := [.d (eStandL st), .d (eD (.buy i p home)), .d (.int x), .d (.int st.home), .d (.int st.far), .d (.list (st.things.map eR)), .u, .d (eR ((i : Int), p)), .u, .u]) (sSet 7 (dTup2 (aC (dI (dv 1) di) (aC (dI (dv 1) di) aN))) nd) ?_
    refine bIf (tEqS (p := "buy") (dI (dv 1) di) ds) (fun h => absurd h (by decide)) fun _ => br0 ?_
    refine bC (r1 := [.d (eStandL st), .d (eD (.buy i p home)), .d (.int x), .d (.int st.home), .d (.int st.far), .d (.list (st.things.map eR)), .u, .d (eR ((i : Int), p)), .u, .d (.list ((withThing st.things ((i : Int), p)).map eR))])
      (sSet 9 (r1 := [.d (eStandL st), .d (eD (.buy i p home)), .d (.int x), .d (.int st.home), .d (.int st.far), .d (.list (st.things.map eR)), .u, .d (eR ((i : Int), p)), .u, .u]) (dTo (dSort (bs := st.things ++ [((i : Int), p)]) (enc := eR) E.b_sorted hr.units (fun a b => by simp [eR, PySem.W.alike, PySem.W.alikeAll]) (PySem.W.Sortable.tuples fun b => ⟨_, _, rfl⟩) (fun b => by simp [eR, PyData.depth, PyData.depthAll])
        (dTo (dCatL (by rw [List.length_map, sz]; show _ + 1 ≤ _; omega) (dv 5) (dLst1 (dv 7))) (map_snoc (e := eR) st.things ((i : Int), p)))) (by rw [sort_things])) nd) ?_
    refine bIf (tEqS (p := "buy") (dI (dv 1) di) ds) (fun h => absurd h (by decide)) fun _ => br0 ?_
    refine bC (r1 := [.d (eStandL st), .d (eD (.buy i p home)), .d (.int x), .d (.int st.home), .d (.int st.far), .d (.list (st.things.map eR)), .d (.tuple [.int (if home = true then st.home - x else st.home), .int (if home = true then st.far else st.far - x)]), .d (eR ((i : Int), p)), .u, .d (.list ((withThing st.things ((i : Int), p)).map eR))])
      (sSet 6 (r1 := [.d (eStandL st), .d (eD (.buy i p home)), .d (.int x), .d (.int st.home), .d (.int st.far), .d (.list (st.things.map eR)), .u, .d (eR ((i : Int), p)), .u, .d (.list ((withThing st.things ((i : Int), p)).map eR))]) (dIf' (tEqS (p := homeS home) (dI (dv 1) di) ds) (fun h => dTo (dTup2 (aC (dSub (dv 3) (dv 2)) (aC (dv 4) aN))) ?_) (fun h => dTo (dTup2 (aC (dv 3) (aC (dSub (dv 4) (dv 2)) aN))) ?_)) nd) ?_
    · cases home <;> first | rfl | (exact absurd h (by decide))
    · cases home <;> first | rfl | (exact absurd h (by decide))
    rw [behind_buy h1 h2 hx0]
    generalize (if home = true then st.home - x else st.home) = a
    generalize (if home = true then st.far else st.far - x) = b
    refine b1 (sRet' (dIf (tLt (dMinP E.b_min hr.units (dv 6)) di) (fun _ => dn) (fun _ => dCatT (xs := [.int a, .int b]) (ys := [.list ((withThing st.things ((i : Int), p)).map eR)]) (show 3 ≤ sizeLine by decide) (dv 6) (dTup1 (dv 9)))) ?_)
    by_cases hc : min a b < 0
    · rw [if_pos (decide_eq_true hc), if_pos hc]; rfl
    · rw [if_neg (by simpa using hc), if_neg hc]; rfl
  | ret i p home =>
    refine bIf (k := false) (tIn (x := .str "return") (y := .list [.str "into", .str "back"]) (u65 hr) (.inl rfl) (by decide +kernel) (by decide +kernel) rfl (dI (dv 1) di) (dLst (show 2 ≤ sizeLine by decide) (aC ds (aC ds aN)))) (fun h => absurd h (by decide)) fun _ => br0 ?_
    refine bC (r1 := [.d (eStandL st), .d (eD (.ret i p home)), .d (.int x), .d (.int st.home), .d (.int st.far), .d (.list (st.things.map eR)), .u, .d (eR ((i : Int), p)), .u, .u]) (sSet 7 (dTup2 (aC (dI (dv 1) di) (aC (dI (dv 1) di) aN))) nd) ?_
    refine bIf (tEqS (p := "return") (dI (dv 1) di) ds) (fun _ => ?_) fun h => absurd h (by decide)
    rw [behind_ret h1 h2 hx0]
    by_cases hin : ((i : Int), p) ∈ st.things
    · rw [if_pos hin]
      obtain ⟨i1, i2⟩ := idx_R hin
      have hil := (List.getElem?_eq_some_iff.mp (idx_at hin)).1
      refine brR (bIf (k := false) (tNotIn (x := eR ((i : Int), p)) (y := .list (st.things.map eR)) (u65 hr) (.inl rfl) (sh_R _) (sh_Rs _) (by rw [any_R, decide_eq_true hin]; rfl) (dv 7) (dv 5)) (fun h => absurd h (by decide)) fun _ => br0 ?_)
      refine bC (r1 := [.d (eStandL st), .d (eD (.ret i p home)), .d (.int x), .d (.int st.home), .d (.int st.far), .d (.list (st.things.map eR)), .u, .d (eR ((i : Int), p)), .d (.int (st.things.idxOf ((i : Int), p) : Nat)), .u]) (sSet 8 (dIndexL (u65 hr) (sh_Rs _) (sh_R _) i1 (by rw [eqv_R]; exact decide_eq_true rfl) i2 (dv 5) (dv 7)) nd) ?_
      refine bC (r1 := [.d (eStandL st), .d (eD (.ret i p home)), .d (.int x), .d (.int st.home), .d (.int st.far), .d (.list (st.things.map eR)), .u, .d (eR ((i : Int), p)), .d (.int (st.things.idxOf ((i : Int), p) : Nat)), .d (.list ((AM.without st.things ((i : Int), p)).map eR))])
        (sSet 9 (r1 := [.d (eStandL st), .d (eD (.ret i p home)), .d (.int x), .d (.int st.home), .d (.int st.far), .d (.list (st.things.map eR)), .u, .d (eR ((i : Int), p)), .d (.int (st.things.idxOf ((i : Int), p) : Nat)), .u]) (dTo (dCatL ?_ (dSlL (dv 5) oN (oS (dv 8))) (dSlL (dv 5) (oS (dAdd (dv 8) di)) oN)) ?_) nd) ?_
      · rw [cut_take _ _ (by rw [List.length_map]; omega), show ((st.things.idxOf ((i : Int), p) : Nat) : Int) + 1 = ((st.things.idxOf ((i : Int), p) + 1 : Nat) : Int) by omega, cut_drop _ _ (by rw [List.length_map]; omega), sz]
        simp
        omega
      · rw [cut_take _ _ (by rw [List.length_map]; omega), show ((st.things.idxOf ((i : Int), p) : Nat) : Int) + 1 = ((st.things.idxOf ((i : Int), p) + 1 : Nat) : Int) by omega, cut_drop _ _ (by rw [List.length_map]; omega)]
        unfold AM.without
        rw [List.map_append, List.map_take, List.map_drop]
      refine b1 (sRet' (dIf (tEqS (p := homeS home) (dI (dv 1) di) ds) (fun _ => dTup3 (aC (dAdd (dv 3) (dv 2)) (aC (dv 4) (aC (dv 9) aN)))) (fun _ => dTup3 (aC (dv 3) (aC (dAdd (dv 4) (dv 2)) (aC (dv 9) aN))))) ?_)
      cases home <;> rfl
    · rw [if_neg hin]
      exact brR (bIf (k := true) (tNotIn (x := eR ((i : Int), p)) (y := .list (st.things.map eR)) (u65 hr) (.inl rfl) (sh_R _) (sh_Rs _) (by rw [any_R, decide_eq_false hin]; rfl) (dv 7) (dv 5)) (fun _ => brR (b1 (sRet dn))) fun h => absurd h (by decide))
end Kx
end Sec_LG
section Sec_LH
set_option maxRecDepth 100000
/-! The law's led, and sorted. -/
namespace Kx
open PySem PySem.Spec PyProof.Rows L2 DL AM
variable {P : Program} {w : World} {K : PySem.W.Frag} {mg : Str → Option Value} {base : Heap}
theorem behind_nn {W : Wd} {st st' : Stand} {d : Deed} {x : Int} (h1 : 0 ≤ st.home) (h2 : 0 ≤ st.far) (hx : 0 ≤ x) (hd : DOk W d) (h : behind st d (some x) = some st') : 0 ≤ st'.home ∧ 0 ≤ st'.far := by
  obtain ⟨e, hn⟩ := behind_some h
  subst e
  have n1 : ¬ st.home < (need d x).1 := fun z => hn (.inl z)
  have n2 : ¬ st.far < (need d x).2 := fun z => hn (.inr (.inl z))
  cases d with
  | ex bk i n => cases bk <;> (simp only [need, effect] at n1 n2 ⊢; omega)
  | over i p m => simp only [need, effect] at n1 n2 ⊢; omega
  | buy i p home => cases home <;> (simp only [need, effect, if_true, Bool.false_eq_true, if_false] at n1 n2 ⊢; omega)
  | ret i p home => cases home <;> (simp only [need, effect, if_true, Bool.false_eq_true, if_false] at n1 n2 ⊢; omega)
def eLedL (q : Stand × List Int × Option Nat) : PyData := .tuple [eStandL q.1, .list (q.2.1.map .int), eON q.2.2]
theorem rg_zip (ds : List Deed) : rgD 0 ds.length = (ds.zipIdx 0).map fun q => .int (q.2 : Nat) := by
  refine List.ext_getElem? fun i => ?_
  unfold rgD
  rw [List.getElem?_map, List.getElem?_map, List.getElem?_zipIdx]
  by_cases h : i < ds.length
  · simp [h]
  · simp [h]
theorem sc_law_led : Sc ["_law_world_here", "_law_stand", "_law_row", "_law_rate", "_law_found", "_law_at", "_law_number_here", "_law_there"] ["_law_world_here", "_law_stand", "_law_row", "_law_rate"] 97 := ⟨rfl, rfl, rfl, by decide +kernel, rfl, by decide +kernel, by decide +kernel⟩
structure LJ (i : Nat) (cur : Stand) (found : List Int) : Prop where
  t : ∀ y ∈ cur.things, TOk y
  n : cur.things.length ≤ 20 + i
  h : 0 ≤ cur.home
  f : 0 ≤ cur.far
  l : found.length = i
theorem c_law_led (E : En K mg) {W : Wd} {st : Stand} {ds : List Deed} {r : Rate} (h : ∀ d ∈ ds, DOk W d) (hl : ds.length ≤ 16) (hj0 : LJ 0 st []) (hr0 : Sl r) (hg : Rng r) :
    Cal P w K mg base 4 "_law_led" [eW W, eStandL st, eDs ds, eR r] (eLedL (led W st ds r)) := by
  obtain ⟨f, fd, F, hm⟩ := E.f__law_led
  have nd := sc_law_led.nd
  have sz := sizeLine_eq
  refine cal_of (bg := []) F sc_law_led hm (fun _ _ _ _ _ _ us hl => match us, hl with | [_, _, _, _], _ => rfl) rfl (by decide) fun f cdv A outer s' H Ex G hr => ?_
  refine bC (r1 := [.d (eW W), .d (eStandL st), .d (eDs ds), .d (eR r), .m true [], .u, .u, .u]) (sNewL 4 (Nat.zero_le _) aN nd) ?_
  have stp : ∀ (i : Nat) (cur : Stand) (found : List Int) (d : Deed), ds[i]? = some d → LJ i cur found → StN cur ∧ DOk W d ∧ found.length < 16 := fun i cur found d hd hj => by
    have := (List.getElem?_eq_some_iff.mp hd).1
    exact ⟨⟨hj.h, hj.f, by have := hj.n; omega⟩, h d (List.mem_of_getElem? hd), by have := hj.l; omega⟩
  have nn : ∀ (d : Deed), DOk W d → ∀ y, told W d r = some y → 0 ≤ y := fun d hd y hy => (told_bd (dok_db hd) hg hy).1
  have res : led W st ds r = ledGo W r 0 st [] ds := rfl
  rw [res]
  refine bOr (o := ledOut (fun cur found => [.d (eW W), .d (eStandL cur), .d (eDs ds), .d (eR r), .m true (found.map .int), .u, .u, .u]) eLedL (ledGo W r 0 st [] ds))
    (sFor (r1 := [.d (eW W), .d (eStandL st), .d (eDs ds), .d (eR r), .m true [], .u, .u, .u]) (iTo (iR1 (i := (ds.length : Int)) E.b_range (aC (dTo (dLen (xs := ds.map eD) E.b_len (.inr rfl) (aC (dv 2) aN)) (by rw [List.length_map])) aN) (by omega)) (rg_zip ds)) ?_) ?_ ?_ ?_
  · refine for_led (fun cur found => [.d (eW W), .d (eStandL cur), .d (eDs ds), .d (eR r), .m true (found.map .int), .u, .u, .u]) eLedL (fun i d => .int (i : Nat)) W r ds LJ
      ?_ ?_ ?_ ?_ ds 0 st [] (fun j => by rw [Nat.zero_add]) hj0
    · intro i cur found d x st' hi hd hj ht hb
      have hdk := h d (List.mem_of_getElem? hd)
      have := behind_ok hj.t (thing_ok hdk) hb
      have nz := behind_nn hj.h hj.f (nn d hdk x ht) hdk hb
      exact ⟨this.1, by have := hj.n; omega, nz.1, nz.2, by rw [List.length_append, hj.l]; rfl⟩
    · intro i cur found d hd hj ht
      obtain ⟨g1, g2, g3⟩ := stp i cur found d hd hj
      have hb : behind cur d (told W d r) = none := by rw [ht]; rfl
      have hat : atI (ds.map eD) (i : Int) = some (eD d) := atI_nat (by rw [List.getElem?_map, hd]; rfl)
      refine fS (gNm 5 nd) ?_
      refine bC (r1 := [.d (eW W), .d (eStandL cur), .d (eDs ds), .d (eR r), .m true (found.map .int), .d (.int (i : Nat)), .d (eO .int (told W d r)), .u]) (sSet 6 (dCall (c_law_number E g2 hr0) hr (aC (dv 0) (aC (dIxT (xs := ds.map eD) hat (dv 2) (dv 5)) (aC (dv 3) aN)))) nd) ?_
      refine bC (r1 := [.d (eW W), .d (eStandL cur), .d (eDs ds), .d (eR r), .m true (found.map .int), .d (.int (i : Nat)), .d (eO .int (told W d r)), .d .none]) (sSet 7 (r1 := [.d (eW W), .d (eStandL cur), .d (eDs ds), .d (eR r), .m true (found.map .int), .d (.int (i : Nat)), .d (eO .int (told W d r)), .u]) (dTo (dCall (c_law_done E g1 g2 (nn d g2)) (hr.mono (by decide)) (aC (dv 1) (aC (dIxT (xs := ds.map eD) hat (dv 2) (dv 5)) (aC (dv 6) aN)))) (y := .none) (by rw [hb]; rfl)) nd) ?_
      exact bIf (k := true) (tIsN' (x := .none) (dv 7)) (fun _ => brR (bFz (i := 4) rfl (b1 (sRet (dTup3 (aC (dv 1) (aC (dv 4) (aC (dv 5) aN)))))))) fun h => absurd h (by decide)
    · intro i cur found d x hd hj ht hb0
      obtain ⟨g1, g2, g3⟩ := stp i cur found d hd hj
      have hb : behind cur d (told W d r) = none := by rw [ht]; exact hb0
      have hat : atI (ds.map eD) (i : Int) = some (eD d) := atI_nat (by rw [List.getElem?_map, hd]; rfl)
      refine fS (gNm 5 nd) ?_
      refine bC (r1 := [.d (eW W), .d (eStandL cur), .d (eDs ds), .d (eR r), .m true (found.map .int), .d (.int (i : Nat)), .d (eO .int (told W d r)), .u]) (sSet 6 (dCall (c_law_number E g2 hr0) hr (aC (dv 0) (aC (dIxT (xs := ds.map eD) hat (dv 2) (dv 5)) (aC (dv 3) aN)))) nd) ?_
      refine bC (r1 := [.d (eW W), .d (eStandL cur), .d (eDs ds), .d (eR r), .m true (found.map .int), .d (.int (i : Nat)), .d (eO .int (told W d r)), .d .none]) (sSet 7 (r1 := [.d (eW W), .d (eStandL cur), .d (eDs ds), .d (eR r), .m true (found.map .int), .d (.int (i : Nat)), .d (eO .int (told W d r)), .u]) (dTo (dCall (c_law_done E g1 g2 (nn d g2)) (hr.mono (by decide)) (aC (dv 1) (aC (dIxT (xs := ds.map eD) hat (dv 2) (dv 5)) (aC (dv 6) aN)))) (y := .none) (by rw [hb]; rfl)) nd) ?_
      exact bIf (k := true) (tIsN' (x := .none) (dv 7)) (fun _ => brR (bFz (i := 4) rfl (b1 (sRet (dTup3 (aC (dv 1) (aC (dv 4) (aC (dv 5) aN)))))))) fun h => absurd h (by decide)
    · intro i cur found d x st' hd hj ht hb0
      obtain ⟨g1, g2, g3⟩ := stp i cur found d hd hj
      have hat : atI (ds.map eD) (i : Int) = some (eD d) := atI_nat (by rw [List.getElem?_map, hd]; rfl)
      refine fS (gNm 5 nd) ?_
      refine bC (r1 := [.d (eW W), .d (eStandL cur), .d (eDs ds), .d (eR r), .m true (found.map .int), .d (.int (i : Nat)), .d (.int x), .u]) (sSet 6 (r1 := [.d (eW W), .d (eStandL cur), .d (eDs ds), .d (eR r), .m true (found.map .int), .d (.int (i : Nat)), .u, .u]) (dTo (dCall (c_law_number E g2 hr0) hr (aC (dv 0) (aC (dIxT (xs := ds.map eD) hat (dv 2) (dv 5)) (aC (dv 3) aN)))) (y := .int x) (by rw [ht]; rfl)) nd) ?_
      refine bC (r1 := [.d (eW W), .d (eStandL cur), .d (eDs ds), .d (eR r), .m true (found.map .int), .d (.int (i : Nat)), .d (.int x), .d (eStandL st')]) (sSet 7 (r1 := [.d (eW W), .d (eStandL cur), .d (eDs ds), .d (eR r), .m true (found.map .int), .d (.int (i : Nat)), .d (.int x), .u]) (dTo (dCall (c_law_done E (x := some x) g1 g2 (fun y e => by cases e; exact nn d g2 x ht)) (hr.mono (by decide)) (aC (dv 1) (aC (dIxT (xs := ds.map eD) hat (dv 2) (dv 5)) (aC (dv 6) aN)))) (y := eStandL st') (by rw [hb0]; rfl)) nd) ?_
      refine bIf (k := false) (tIsN' (x := eStandL st') (dv 7)) (fun h => absurd h (by decide)) fun _ => br0 ?_
      refine bC (r1 := [.d (eW W), .d (eStandL st'), .d (eDs ds), .d (eR r), .m true (found.map .int), .d (.int (i : Nat)), .d (.int x), .d (eStandL st')]) (sSet 1 (dv 7) nd) ?_
      refine bC (r1 := [.d (eW W), .d (eStandL st'), .d (eDs ds), .d (eR r), .m true ((found ++ [x]).map .int), .d (.int (i : Nat)), .d (.int x), .d (eStandL st')]) ?_ (bW [5, 6, 7])
      rw [List.map_append]
      exact sApp 4 (dv 6) (by rw [List.length_map]; omega)
  · intro r1 e
    cases hq : (ledGo W r 0 st [] ds).2.2 with
    | none =>
      unfold ledOut at e
      rw [hq] at e
      cases e
      refine bFz (i := 4) rfl (b1 (sRet' (dTup3 (aC (dv 1) (aC (dv 4) (aC dn aN)))) ?_))
      unfold eLedL
      rw [hq]
      rfl
    | some n =>
      unfold ledOut at e
      rw [hq] at e
      cases e
  · intro x b e
    unfold ledOut at e
    split at e
    · cases e
    · cases e
      rfl
  · intro xs e
    unfold ledOut at e
    split at e <;> cases e
theorem sc_law_sorted : Sc ["_law_some", "_law_one", "_law_two"] ["_law_some"] 98 := ⟨rfl, rfl, rfl, by decide +kernel, rfl, by decide +kernel, by decide +kernel⟩
theorem c_law_sorted (E : En K mg) {l : List Rate} (h : ∀ r ∈ l, Rt r) (hl : l.length ≤ 1000000) (hS : FewR l) : Cal P w K mg base 1 "_law_sorted" [.list (l.map eR)] (.list ((sortR l).map eR)) := by
  obtain ⟨f, fd, F, hm⟩ := E.f__law_sorted
  have nd := sc_law_sorted.nd
  have sz := sizeLine_eq
  obtain ⟨S, hS1, hS2⟩ := hS
  refine cal_of (bg := []) F sc_law_sorted hm (fun _ _ _ _ _ _ us hl => match us, hl with | [_], _ => rfl) rfl (by decide) fun f cdv A outer s' H Ex G hr => ?_
  refine b1 (sRet (r1 := [.d (.list (l.map eR)), .u, .u]) (dLc (own := [("_law_one", 1), ("_law_two", 2)]) (r1 := [.d (.list (l.map eR)), .u, .u]) (iTo (iL (SN.dSortSet (ks := l.map (k3 (10 ^ 18))) (target := (sortR l).map (k3 (10 ^ 18))) (C := S.map (k3 (10 ^ 18))) E.b_sorted E.b_set hr.units ?_ (by rw [List.length_map]; exact hS1)
    (fun k hk => by
      obtain ⟨r, hr, e⟩ := List.mem_map.mp hk
      exact List.mem_map.mpr ⟨r, hS2 r hr, e⟩) (ordered (by decide) h))) (ys := (sortR l).map fun n => SN.enc3 (k3 (10 ^ 18) n)) (by rw [List.map_map]; rfl)) (noM rfl) (comp_fn _ eR _ fun n hn => cTake (fun _ _ _ _ _ _ => gTu (gC (gNm 1 nd) (gC (gNm 2 nd) gN))) (by decide)
      (fun _ _ _ _ _ _ => dv 2)) (by rw [List.length_map]; have := sortR_len h hS2; omega) nd (by rfl)))
  rw [List.map_map]
  exact dLc (own := [("_law_two", 2)]) (iL (dv 0)) (noM rfl) (comp_fn eR _ _ fun n hn => cTake (fun _ _ _ _ _ _ => gNm 2 nd) (by decide)
      (fun _ _ _ _ _ _ => dTup2 (aC (dDiv (cdiv (h n hn).red.q (by have := (h n hn).Q; omega)) (dMul (by have := (h n hn).P; have := (h n hn).red.p; simp only [CMul]; omega) (dI (xs := [.int n.1, .int n.2]) (dv 2) di) (dPow (show CPow 10 18 from ⟨by decide, by decide, by decide⟩) di di)) (dI (xs := [.int n.1, .int n.2]) (dv 2) di)) (aC (dv 2) aN)))) (by rw [List.length_map]; omega) nd (by rfl)
end Kx
end Sec_LH
section Sec_LI
set_option maxRecDepth 100000
/-! The law's edges. -/
namespace Kx
open PySem PySem.Spec PyProof.Rows L2 DL AM
variable {P : Program} {w : World} {K : PySem.W.Frag} {mg : Str → Option Value} {base : Heap}
abbrev leN : List Str := ["_law_rounding_here", "_law_amount", "_law_cut", "_law_way", "_law_mode", "_law_step", "_law_found", "_law_value", "_law_top", "_law_pair", "_law_one"]
theorem sc_law_edges : Sc leN ["_law_rounding_here", "_law_amount", "_law_cut", "_law_way"] 99 := ⟨rfl, rfl, rfl, by decide +kernel, rfl, by decide +kernel, by decide +kernel⟩
abbrev REd (m : Mode) (s n cut : Int) (bk : Bool) (l : List PyData) (v : Sv) (p : Sv) : Rho := [.d (eRo ⟨m, s⟩), .d (.int n), .d (.int cut), .d (.str (wayS bk)), .d (.str (ms m)), .d (.int s), .m true l, v, .d (.int (n * (100 - cut))), p, .u]
theorem vt_next {m : Mode} {s : Int} {j : Nat} : vt m s (1 + (j : Int)) + s * vb m = vt m s (1 + ((j + 1 : Nat) : Int)) := by
  unfold vt
  have : ((j + 1 : Nat) : Int) = (j : Int) + 1 := by omega
  rw [this]
  grind
theorem c_law_edges (E : En K mg) {m : Mode} {s n cut : Int} {bk : Bool} (hs : 0 < s) (hs2 : s ≤ 10) (h9 : m = .nine → 1 < s) (hn : 0 < n) (hn2 : n ≤ 12) (hc : 0 ≤ cut ∧ cut ≤ 50) :
    Cal P w K mg base 2 "_law_edges" [eRo ⟨m, s⟩, .int n, .int cut, .str (wayS bk)] (.list ((lawL m s n (n * (100 - cut)) bk).map eR)) := by
  obtain ⟨f, fd, F, hm⟩ := E.f__law_edges
  have nd := sc_law_edges.nd
  have sz := sizeLine_eq
  have hv := vb_pos m
  have ho := off_bd (m := m) hs
  have hN := lawN_le (m := m) hs (by omega : 0 ≤ n) hn2 hs2
  have hN0 := lawN_nn (m := m) hs (by omega : 0 ≤ n)
  have ht : 0 < n * (100 - cut) := Int.mul_pos hn (by omega)
  have ht2 : n * (100 - cut) ≤ 12 * 100 := Int.mul_le_mul hn2 (by omega) (by omega) (by omega)
  refine cal_of (bg := []) F sc_law_edges hm (fun _ _ _ _ _ _ us hl => match us, hl with | [_, _, _, _], _ => rfl) rfl (by decide) fun f cdv A outer s' H Ex G hr => ?_
  have tail : DB (cxOf CX0 P w K mg base leN "_law_edges" (defScope (top 99)) f cdv A outer s' H Ex).nox G (REd m s n cut bk [] (.m true [.int (vt m s 1), .int (vb m)]) .u) ((defBody (top 99)).drop 4)
      (.rt (.list ((lawL m s n (n * (100 - cut)) bk).map eR)) []) := by
    refine bC (r1 := REd m s n cut bk (((List.range (lawN m s n).toNat).map fun (i : Nat) => lawG m s (n * (100 - cut)) bk (1 + (i : Int))).map eR) (.m true [.int (vt m s (1 + ((lawN m s n).toNat : Int))), .int (vb m)]) .u) (sWh (n := (lawN m s n).toNat) ?_) ?_
    · refine whR_fn (S := Nat) (fun j => REd m s n cut bk (((List.range j).map fun (i : Nat) => lawG m s (n * (100 - cut)) bk (1 + (i : Int))).map eR) (.m true [.int (vt m s (1 + (j : Int))), .int (vb m)]) .u) (fun j => j ≤ (lawN m s n).toNat)
        (fun j => decide (vt m s (1 + (j : Int)) ≤ (4 * n + s) * vb m)) (fun j => j + 1) (fun _ => (lawN m s n).toNat) (fun j => (lawN m s n).toNat - j) ?_ ?_ ?_ ?_ ?_ ?_ _ 0 (Nat.zero_le _) (Nat.le_refl _)
      · intro j hj
        exact tLe (dIxM 7 (xs := [.int (vt m s (1 + (j : Int))), .int (vb m)]) rfl di) (dMul (by simp only [CMul]; omega) (dAdd (dMul (by simp only [CMul]; omega) di (dv 1)) (dv 5)) (dIxM 7 (xs := [.int (vt m s (1 + (j : Int))), .int (vb m)]) rfl di))
      · intro j hj hcj
        have hk := (le_lawN (n := n) hs).mpr (of_decide_eq_true hcj)
        have hvt : vt m s (1 + (j : Int)) ≤ 200 := by
          have h1 := of_decide_eq_true hcj
          have h2 : (4 * n + s) * vb m ≤ 58 * 2 := Int.mul_le_mul (by omega) hv.2 (by omega) (by omega)
          omega
        have hvp := vt_pos (k := 1 + (j : Int)) hs (by omega) h9
        have p2 : 0 < vb m * (n * (100 - cut)) := Int.mul_pos hv.1 ht
        have p3 : vb m * (n * (100 - cut)) ≤ 2 * 1200 := Int.mul_le_mul hv.2 (by omega) (by omega) (by omega)
        have eg : lawG m s (n * (100 - cut)) bk (1 + (j : Int)) = lowest (if bk = true then vt m s (1 + (j : Int)) * 100 else vb m * (n * (100 - cut))) (if bk = true then vb m * (n * (100 - cut)) else vt m s (1 + (j : Int)) * 100) := by
          unfold lawG
          cases bk <;> rfl
        refine bC (r1 := REd m s n cut bk (((List.range j).map fun (i : Nat) => lawG m s (n * (100 - cut)) bk (1 + (i : Int))).map eR) (.m true [.int (vt m s (1 + (j : Int))), .int (vb m)]) (.d (eR (if bk = true then vt m s (1 + (j : Int)) * 100 else vb m * (n * (100 - cut)), if bk = true then vb m * (n * (100 - cut)) else vt m s (1 + (j : Int)) * 100))))
          (sSet 9 (r1 := REd m s n cut bk (((List.range j).map fun (i : Nat) => lawG m s (n * (100 - cut)) bk (1 + (i : Int))).map eR) (.m true [.int (vt m s (1 + (j : Int))), .int (vb m)]) .u) (dIf' (tEqS (dv 3) ds)
            (fun h => dTo (dTup2 (aC (dMul (by simp only [CMul]; omega) (dIxM 7 (xs := [.int (vt m s (1 + (j : Int))), .int (vb m)]) rfl di) di) (aC (dMul (by simp only [CMul]; omega) (dIxM 7 (xs := [.int (vt m s (1 + (j : Int))), .int (vb m)]) rfl di) (dv 8)) aN))) ?_)
            (fun h => dTo (dTup2 (aC (dMul (by simp only [CMul]; omega) (dIxM 7 (xs := [.int (vt m s (1 + (j : Int))), .int (vb m)]) rfl di) (dv 8)) (aC (dMul (by simp only [CMul]; omega) (dIxM 7 (xs := [.int (vt m s (1 + (j : Int))), .int (vb m)]) rfl di) di) aN))) ?_)) nd) ?_
        · cases bk <;> first | rfl | (exact absurd h (by decide))
        · cases bk <;> first | rfl | (exact absurd h (by decide))
        generalize hA : (if bk = true then vt m s (1 + (j : Int)) * 100 else vb m * (n * (100 - cut))) = a at eg
        generalize hB : (if bk = true then vb m * (n * (100 - cut)) else vt m s (1 + (j : Int)) * 100) = b at eg
        have hb : 0 < b ∧ b < 2 ^ 200 := by cases bk <;> simp at hB <;> omega
        refine bC (r1 := REd m s n cut bk (((List.range (j + 1)).map fun (i : Nat) => lawG m s (n * (100 - cut)) bk (1 + (i : Int))).map eR) (.m true [.int (vt m s (1 + (j : Int))), .int (vb m)]) (.d (eR (a, b)))) ?_ ?_
        · rw [List.range_succ, List.map_append, List.map_append]
          show DS _ _ _ _ (.nx (REd m s n cut bk (_ ++ [eR (lawG m s (n * (100 - cut)) bk (1 + (j : Int)))]) _ _))
          rw [eg]
          exact sApp 6 (dCall (c_law_lowest E hb.1 hb.2) hr (aC (dI (xs := [.int a, .int b]) (dv 9) di) (aC (dI (xs := [.int a, .int b]) (dv 9) di) aN))) (by rw [List.length_map, List.length_map, List.length_range]; omega)
        · refine bC (r1 := REd m s n cut bk (((List.range (j + 1)).map fun (i : Nat) => lawG m s (n * (100 - cut)) bk (1 + (i : Int))).map eR) (.m true [.int (vt m s (1 + ((j + 1 : Nat) : Int))), .int (vb m)]) (.d (eR (a, b)))) ?_ (bW [9])
          rw [← vt_next]
          exact sMst 7 (us := [.int (vt m s (1 + (j : Int))), .int (vb m)]) (n := 0) (dAdd (dIxM 7 (xs := [.int (vt m s (1 + (j : Int))), .int (vb m)]) rfl di) (dMul (by simp only [CMul]; omega) (dv 5) (dIxM 7 (xs := [.int (vt m s (1 + (j : Int))), .int (vb m)]) rfl di))) di rfl
      · intro j hj hcj
        have hk := (le_lawN (n := n) hs).mpr (of_decide_eq_true hcj)
        omega
      · intro j hj hcj
        have hk := (le_lawN (n := n) hs).mpr (of_decide_eq_true hcj)
        omega
      · intro j hj hcj
        have : ¬ 1 + (j : Int) ≤ lawN m s n := fun z => of_decide_eq_false hcj ((le_lawN (n := n) hs).mp z)
        omega
      · intro j hj hcj
        rfl
    · refine bFz (i := 6) rfl (b1 (sRet (r1 := [.d (eRo ⟨m, s⟩), .d (.int n), .d (.int cut), .d (.str (wayS bk)), .d (.str (ms m)), .d (.int s), .d (.list (((List.range (lawN m s n).toNat).map fun (i : Nat) => lawG m s (n * (100 - cut)) bk (1 + (i : Int))).map eR)), .m true [.int (vt m s (1 + ((lawN m s n).toNat : Int))), .int (vb m)], .d (.int (n * (100 - cut))), .u, .u])
        (dLc (own := [("_law_one", 10)]) (iL (dv 6)) (noM rfl) (comp_filter eR lawIn _ fun r hr => cIf (fun _ _ _ _ _ _ => gNm 10 nd) (fun _ _ _ _ _ _ => tW (wAnd (tLe (dI (xs := [.int r.1, .int r.2]) (dv 10) di) (dMul (by simp only [CMul]; omega) di (dI (xs := [.int r.1, .int r.2]) (dv 10) di))) fun _ => wAnd1 (tLe (dI (xs := [.int r.1, .int r.2]) (dv 10) di) (dMul (by simp only [CMul]; omega) di (dI (xs := [.int r.1, .int r.2]) (dv 10) di)))))
          (fun _ _ _ _ _ _ _ => dv 10) (by decide) rfl rfl) (by rw [List.length_map, List.length_map, List.length_range]; omega) nd (by rfl))))
  refine bC (r1 := [.d (eRo ⟨m, s⟩), .d (.int n), .d (.int cut), .d (.str (wayS bk)), .d (.str (ms m)), .d (.int s), .u, .u, .u, .u, .u]) (sAsg (dv 0) (gTu (gC (gNm 4 nd) (gC (gNm 5 nd) gN)))) ?_
  refine bC (r1 := REd m s n cut bk [] (.m true [.int s, .int 1]) .u) (sNew3 6 7 8 (mv 5) mi (mMul (by simp only [CMul]; omega) (mv 1) (mSub mi (mv 2))) nd) ?_
  cases m with
  | near =>
    refine bIf (k := true) (tEqS (p := "near") (dv 4) ds) (fun _ => brN (r1 := REd .near s n cut bk [] (.m true [.int s, .int 2]) .u) (b1 (sNewL 7 (xs := [.int s, .int 2]) (show 2 ≤ sizeLine by decide) (aC (dv 5) (aC di aN)) nd)) ?_) fun h => absurd h (by decide)
    refine bIf (k := false) (tEqS (p := "near") (dv 4) ds) (fun h => absurd h (by decide)) fun _ => br0 ?_
    have e : vt .near s 1 = s := by simp only [AM.vt, AM.vb, AM.off]; omega
    rw [e] at tail
    exact tail
  | nine =>
    refine bIf (k := false) (tEqS (p := "nine") (dv 4) ds) (fun h => absurd h (by decide)) fun _ => br0 ?_
    refine bIf (k := true) (tEqS (p := "nine") (dv 4) ds) (fun _ => brN (r1 := REd .nine s n cut bk [] (.m true [.int (s - 1), .int 1]) .u) (b1 (sNewL 7 (xs := [.int (s - 1), .int 1]) (show 2 ≤ sizeLine by decide) (aC (dSub (dv 5) di) (aC di aN)) nd)) ?_) fun h => absurd h (by decide)
    have e : vt .nine s 1 = s - 1 := by simp only [AM.vt, AM.vb, AM.off]; omega
    rw [e] at tail
    exact tail
  | down =>
    refine bIf (k := false) (tEqS (p := "down") (dv 4) ds) (fun h => absurd h (by decide)) fun _ => br0 ?_
    refine bIf (k := false) (tEqS (p := "down") (dv 4) ds) (fun h => absurd h (by decide)) fun _ => br0 ?_
    have e : vt .down s 1 = s := by simp only [AM.vt, AM.vb, AM.off]; omega
    rw [e] at tail
    exact tail
  | up =>
    refine bIf (k := false) (tEqS (p := "up") (dv 4) ds) (fun h => absurd h (by decide)) fun _ => br0 ?_
    refine bIf (k := false) (tEqS (p := "up") (dv 4) ds) (fun h => absurd h (by decide)) fun _ => br0 ?_
    have e : vt .up s 1 = s := by simp only [AM.vt, AM.vb, AM.off]; omega
    rw [e] at tail
    exact tail
end Kx
end Sec_LI
section Sec_LJ
set_option maxRecDepth 100000
/-! The law's edges of deeds and scripts. -/
namespace Kx
open PySem PySem.Spec PyProof.Rows L2 DL AM
variable {P : Program} {w : World} {K : PySem.W.Frag} {mg : Str → Option Value} {base : Heap}
theorem rule_v {W : Wd} (hW : WOk W) {bk : Bool} {i : Nat} {n : Int} (hd : DOk W (.ex bk i n)) : VRu (W.rule i bk) := by
  obtain ⟨⟨o, h1, h2⟩, _⟩ := hd
  have ho := hW.o o (List.mem_of_getElem? h1)
  cases bk with
  | true => exact ho.b _ h2
  | false => exact ho.a _ h2
theorem shop_v {W : Wd} (hW : WOk W) {i : Nat} (h : W.shops[i]? = some (W.shop i)) : SOk (W.shop i) := hW.s _ (List.mem_of_getElem? h)
def lawDE (W : Wd) : Deed → List Rate
  | .ex bk i n => lawL (W.rule i bk).m (W.rule i bk).s n (n * (100 - (W.rule i bk).k)) bk
  | .over i p m => lawL (W.shop i).1.m (W.shop i).1.s p (p * (100 - 0)) false ++ (oneTo m).flatMap fun x => lawL (W.shop i).2.1.m (W.shop i).2.1.s x (x * (100 - 0)) true
  | .buy i p _ => lawL (W.shop i).1.m (W.shop i).1.s p (p * (100 - 0)) false
  | .ret i p _ => lawL (W.shop i).1.m (W.shop i).1.s p (p * (100 - 0)) false
def lawSE (W : Wd) (ds : List Deed) : List Rate := ds.flatMap (lawDE W)
theorem lawL_ro {o : Ro} (ho : VRo o) {n : Int} {bk : Bool} (hn : 0 < n) (r : Rate) : r ∈ lawL o.m o.s n (n * (100 - 0)) bk ↔ r ∈ ruleEdges o.ru bk n :=
  lawL_mem (u := o.ru) ho.k.s0 ho.n hn ⟨by show (0 : Int) ≤ 0; omega, by show (0 : Int) ≤ 50; omega⟩ r
theorem mem_lawDE {W : Wd} (hW : WOk W) {d : Deed} (hd : DOk W d) (r : Rate) : r ∈ lawDE W d ↔ r ∈ deedEdges W d := by
  cases d with
  | ex bk i n =>
    have hv := rule_v hW hd
    obtain ⟨_, h3, h4, h5⟩ := hd
    exact lawL_mem h3.s0 hv.n (by omega) ⟨h3.k0, h3.k1⟩ r
  | over i p m =>
    have hv := shop_v hW hd.1
    obtain ⟨h1, h2, h3, h4⟩ := hd
    show r ∈ _ ++ _ ↔ r ∈ _ ++ _
    rw [List.mem_append, List.mem_append, lawL_ro hv.a (by have := h3.lo; omega), List.mem_flatMap, List.mem_flatMap]
    refine or_congr Iff.rfl (exists_congr fun x => and_congr_right fun hx => ?_)
    have := mem_upTo.mp hx
    exact lawL_ro hv.b (by omega) r
  | buy i p home =>
    have hv := shop_v hW hd.1
    exact lawL_ro hv.a (by have := hd.2.2.lo; omega) r
  | ret i p home =>
    have hv := shop_v hW hd.1
    exact lawL_ro hv.a (by have := hd.2.2.1.lo; omega) r
theorem mem_lawSE {W : Wd} (hW : WOk W) {ds : List Deed} (hd : ∀ d ∈ ds, DOk W d) (r : Rate) : r ∈ lawSE W ds ↔ r ∈ scriptEdges W ds := by
  unfold lawSE scriptEdges
  rw [List.mem_flatMap, List.mem_flatMap]
  exact exists_congr fun d => and_congr_right fun h => mem_lawDE hW (hd d h) r
theorem lawL_len {m : Mode} {s n top : Int} {bk : Bool} (hs : 0 < s) (hs2 : s ≤ 10) (hn : 0 < n) (hn2 : n ≤ 12) : (lawL m s n top bk).length ≤ 60 := by
  have hN := lawN_le (m := m) hs (by omega : 0 ≤ n) hn2 hs2
  unfold lawL
  refine Nat.le_trans (List.length_filter_le _ _) ?_
  rw [List.length_map, List.length_range]
  omega
theorem flat_len {α β : Type} {f : α → List β} {N : Nat} : ∀ {es : List α}, (∀ x ∈ es, (f x).length ≤ N) → (es.flatMap f).length ≤ N * es.length
  | [], _ => Nat.le_refl _
  | x :: es, h => by
    have h1 := h x List.mem_cons_self
    have h2 := flat_len (es := es) fun y hy => h y (List.mem_cons_of_mem _ hy)
    rw [List.flatMap_cons, List.length_append, List.length_cons, Nat.mul_succ]
    omega
theorem one12 {m : Int} (h : m ≤ 12) : (oneTo m).length ≤ 12 := by
  simp [oneTo]
  omega
theorem lawDE_len {W : Wd} {d : Deed} (hd : DOk W d) : (lawDE W d).length ≤ 800 := by
  cases d with
  | ex bk i n =>
    obtain ⟨_, h3, h4, h5⟩ := hd
    have := lawL_len (m := (W.rule i bk).m) (top := n * (100 - (W.rule i bk).k)) (bk := bk) h3.s0 h3.s1 (by omega : 0 < n) h5
    show (lawL _ _ _ _ _).length ≤ _
    omega
  | over i p m =>
    obtain ⟨h1, h2, h3, h4⟩ := hd
    have l1 := lawL_len (m := (W.shop i).1.m) (top := p * (100 - 0)) (bk := false) h2.a.s0 h2.a.s1 (by have := h3.lo; omega : 0 < p) h3.hi
    have l2 := flat_len (f := fun x => lawL (W.shop i).2.1.m (W.shop i).2.1.s x (x * (100 - 0)) true) (es := oneTo m) (N := 60) fun x hx => lawL_len h2.b.s0 h2.b.s1 (by have := mem_upTo.mp hx; omega) (by have := mem_upTo.mp hx; have := h4.hi; omega)
    have l3 := one12 h4.hi
    show (lawL _ _ _ _ _ ++ _).length ≤ _
    rw [List.length_append]
    omega
  | buy i p home =>
    obtain ⟨h1, h2, h3⟩ := hd
    have l1 := lawL_len (m := (W.shop i).1.m) (top := p * (100 - 0)) (bk := false) h2.a.s0 h2.a.s1 (by have := h3.lo; omega : 0 < p) h3.hi
    show (lawL _ _ _ _ _).length ≤ _
    omega
  | ret i p home =>
    obtain ⟨h1, h2, h3, _⟩ := hd
    have l1 := lawL_len (m := (W.shop i).1.m) (top := p * (100 - 0)) (bk := false) h2.a.s0 h2.a.s1 (by have := h3.lo; omega : 0 < p) h3.hi
    show (lawL _ _ _ _ _).length ≤ _
    omega
theorem lawSE_len {W : Wd} {ds : List Deed} (hd : ∀ d ∈ ds, DOk W d) : (lawSE W ds).length ≤ 800 * ds.length := flat_len fun d h => lawDE_len (hd d h)
theorem sc_law_deed_edges : Sc ["_law_world_here", "_law_deed_here", "_law_rule_here", "_law_shop", "_law_found", "_law_much"] ["_law_world_here", "_law_deed_here"] 100 := ⟨rfl, rfl, rfl, by decide +kernel, rfl, by decide +kernel, by decide +kernel⟩
theorem c_law_deed_edges (E : En K mg) {W : Wd} (hW : WOk W) {d : Deed} (hd : DOk W d) : Cal P w K mg base 3 "_law_deed_edges" [eW W, eD d] (.list ((lawDE W d).map eR)) := by
  obtain ⟨f, fd, F, hm⟩ := E.f__law_deed_edges
  have nd := sc_law_deed_edges.nd
  have sz := sizeLine_eq
  have c0 : (0 : Int) ≤ 0 ∧ (0 : Int) ≤ 50 := by omega
  refine cal_of (bg := []) F sc_law_deed_edges hm (fun _ _ _ _ _ _ us hl => match us, hl with | [_, _], _ => rfl) rfl (by decide) fun f cdv A outer s' H Ex G hr => ?_
  cases d with
  | ex bk i n =>
    have hv := rule_v hW hd
    obtain ⟨o, hat, e⟩ := office_at hd
    obtain ⟨_, h3, h4, h5⟩ := hd
    refine bIf (k := true) (tIn (x := .str (wayS bk)) (y := .list [.str "into", .str "back"]) (u65 hr) (.inl rfl) (sh_way bk) (by decide +kernel) way_in (dI (dv 1) di) (dLst (show 2 ≤ sizeLine by decide) (aC ds (aC ds aN)))) (fun _ => brR ?_) fun h => absurd h (by decide)
    refine bC (r1 := [.d (eW W), .d (eD (.ex bk i n)), .d (eRu (W.rule i bk)), .u, .u, .u]) (sSet 2 (dIxT (xs := [eORu o.1, eORu o.2]) (x := eRu (W.rule i bk)) (i := if (wayS bk == "back") = true then 1 else 0) ?_ (dIxT (xs := W.offices.map eOff) (atI_nat hat) (dI (dv 0) di) (dI (dv 1) di)) (dIntB E.b_int (aC (dEqS (dI (dv 1) di) ds) aN))) nd) ?_
    · rw [← e]
      cases bk <;> rfl
    exact b1 (sRet (dCall (c_law_edges E h3.s0 h3.s1 hv.n (by omega) h5 ⟨h3.k0, h3.k1⟩) hr (aC (dTo (dSlT (xs := [.str (ms (W.rule i bk).m), .int (W.rule i bk).s, .int (W.rule i bk).c, .int (W.rule i bk).k]) (dv 2) oN (oS di)) rfl) (aC (dI (dv 1) di) (aC (dI (xs := [.str (ms (W.rule i bk).m), .int (W.rule i bk).s, .int (W.rule i bk).c, .int (W.rule i bk).k]) (dv 2) di) (aC (dI (dv 1) di) aN))))))
  | over i p m =>
    have hv := shop_v hW hd.1
    have hlen := lawDE_len hd
    obtain ⟨h1, h2, h3, h4⟩ := hd
    have hat := atI_nat (shop_at h1)
    have h3l := h3.lo
    have h4l := h4.lo
    have h4h := h4.hi
    refine bIf (k := false) (tIn (x := .str "over") (y := .list [.str "into", .str "back"]) (u65 hr) (.inl rfl) (by decide +kernel) (by decide +kernel) rfl (dI (dv 1) di) (dLst (show 2 ≤ sizeLine by decide) (aC ds (aC ds aN)))) (fun h => absurd h (by decide)) fun _ => br0 ?_
    refine bC (r1 := [.d (eW W), .d (eD (.over i p m)), .u, .d (eShop (W.shop i)), .u, .u]) (sSet 3 (dIxT (xs := W.shops.map eShop) hat (dI (dv 0) di) (dI (dv 1) di)) nd) ?_
    refine bC (r1 := [.d (eW W), .d (eD (.over i p m)), .u, .d (eShop (W.shop i)), .d (.list ((lawL (W.shop i).1.m (W.shop i).1.s p (p * (100 - 0)) false).map eR)), .u]) (sSet 4 (dCall (c_law_edges E (bk := false) h2.a.s0 h2.a.s1 hv.a.n (by omega) h3.hi c0) hr (aC (dI (xs := [eRo (W.shop i).1, eRo (W.shop i).2.1, .bool (W.shop i).2.2]) (dv 3) di) (aC (dI (dv 1) di) (aC di (aC ds aN))))) nd) ?_
    refine bIf (k := true) (tEqS (p := "over") (dI (dv 1) di) ds) (fun h => brN (r1 := [.d (eW W), .d (eD (.over i p m)), .u, .d (eShop (W.shop i)), .d (.list ((lawDE W (.over i p m)).map eR)), .u]) (b1 (sFor (iTo (iR2 E.b_range (aC di (aC (dAdd (dI (dv 1) di) di) aN)) (by omega)) (ys := (oneTo m).map .int) ?_) ?_)) (b1 (sRet (dv 4)))) fun h => absurd h (by decide)
    · rw [show m + 1 - 1 = m by omega]
      exact upTo_rg m
    · refine for_acc PyData.int (fun acc => [.d (eW W), .d (eD (.over i p m)), .u, .d (eShop (W.shop i)), .d (.list (acc.map eR)), .u]) (fun x => lawL (W.shop i).2.1.m (W.shop i).2.1.s x (x * (100 - 0)) true) 1000 _ (lawL (W.shop i).1.m (W.shop i).1.s p (p * (100 - 0)) false) (by
        rw [← List.length_append]
        exact Nat.le_trans hlen (by decide)) fun x hx acc hacc => ?_
      have hx0 := mem_upTo.mp hx
      refine fS (gNm 5 nd) (bC (sSet 4 (dTo (dCatL ?_ (dv 4) (dCall (c_law_edges E (bk := true) h2.b.s0 h2.b.s1 hv.b.n (show 0 < x by omega) (by omega) c0) hr (aC (dI (xs := [eRo (W.shop i).1, eRo (W.shop i).2.1, .bool (W.shop i).2.2]) (dv 3) di) (aC (dv 5) (aC di (aC ds aN)))))) (map_app acc _)) nd) (bW [5]))
      rw [List.length_map, List.length_map]
      omega
  | buy i p home =>
    have hv := shop_v hW hd.1
    obtain ⟨h1, h2, h3⟩ := hd
    have hat := atI_nat (shop_at h1)
    have h3l := h3.lo
    refine bIf (k := false) (tIn (x := .str "buy") (y := .list [.str "into", .str "back"]) (u65 hr) (.inl rfl) (by decide +kernel) (by decide +kernel) rfl (dI (dv 1) di) (dLst (show 2 ≤ sizeLine by decide) (aC ds (aC ds aN)))) (fun h => absurd h (by decide)) fun _ => br0 ?_
    refine bC (r1 := [.d (eW W), .d (eD (.buy i p home)), .u, .d (eShop (W.shop i)), .u, .u]) (sSet 3 (dIxT (xs := W.shops.map eShop) hat (dI (dv 0) di) (dI (dv 1) di)) nd) ?_
    refine bC (r1 := [.d (eW W), .d (eD (.buy i p home)), .u, .d (eShop (W.shop i)), .d (.list ((lawL (W.shop i).1.m (W.shop i).1.s p (p * (100 - 0)) false).map eR)), .u]) (sSet 4 (dCall (c_law_edges E (bk := false) h2.a.s0 h2.a.s1 hv.a.n (by omega) h3.hi c0) hr (aC (dI (xs := [eRo (W.shop i).1, eRo (W.shop i).2.1, .bool (W.shop i).2.2]) (dv 3) di) (aC (dI (dv 1) di) (aC di (aC ds aN))))) nd) ?_
    exact bIf (tEqS (p := "buy") (dI (dv 1) di) ds) (fun h => absurd h (by decide)) fun _ => br0 (b1 (sRet (dv 4)))
  | ret i p home =>
    have hv := shop_v hW hd.1
    obtain ⟨h1, h2, h3, _⟩ := hd
    have hat := atI_nat (shop_at h1)
    have h3l := h3.lo
    refine bIf (k := false) (tIn (x := .str "return") (y := .list [.str "into", .str "back"]) (u65 hr) (.inl rfl) (by decide +kernel) (by decide +kernel) rfl (dI (dv 1) di) (dLst (show 2 ≤ sizeLine by decide) (aC ds (aC ds aN)))) (fun h => absurd h (by decide)) fun _ => br0 ?_
    refine bC (r1 := [.d (eW W), .d (eD (.ret i p home)), .u, .d (eShop (W.shop i)), .u, .u]) (sSet 3 (dIxT (xs := W.shops.map eShop) hat (dI (dv 0) di) (dI (dv 1) di)) nd) ?_
    refine bC (r1 := [.d (eW W), .d (eD (.ret i p home)), .u, .d (eShop (W.shop i)), .d (.list ((lawL (W.shop i).1.m (W.shop i).1.s p (p * (100 - 0)) false).map eR)), .u]) (sSet 4 (dCall (c_law_edges E (bk := false) h2.a.s0 h2.a.s1 hv.a.n (by omega) h3.hi c0) hr (aC (dI (xs := [eRo (W.shop i).1, eRo (W.shop i).2.1, .bool (W.shop i).2.2]) (dv 3) di) (aC (dI (dv 1) di) (aC di (aC ds aN))))) nd) ?_
    exact bIf (tEqS (p := "return") (dI (dv 1) di) ds) (fun h => absurd h (by decide)) fun _ => br0 (b1 (sRet (dv 4)))
theorem sc_law_script_edges : Sc ["_law_world_here", "_law_row", "_law_found", "_law_deed_here"] ["_law_world_here", "_law_row"] 103 := ⟨rfl, rfl, rfl, by decide +kernel, rfl, by decide +kernel, by decide +kernel⟩
theorem c_law_script_edges (E : En K mg) {W : Wd} (hW : WOk W) {ds : List Deed} (hd : ∀ d ∈ ds, DOk W d) (hl : ds.length ≤ 16) : Cal P w K mg base 4 "_law_script_edges" [eW W, eDs ds] (.list ((lawSE W ds).map eR)) := by
  obtain ⟨f, fd, F, hm⟩ := E.f__law_script_edges
  have nd := sc_law_script_edges.nd
  have sz := sizeLine_eq
  have hlen := lawSE_len hd
  refine cal_of (bg := []) F sc_law_script_edges hm (fun _ _ _ _ _ _ us hl => match us, hl with | [_, _], _ => rfl) rfl (by decide) fun f cdv A outer s' H Ex G hr => ?_
  refine bC (r1 := [.d (eW W), .d (eDs ds), .d (.list []), .u]) (sSet 2 dLst0 nd) ?_
  refine bC (r1 := [.d (eW W), .d (eDs ds), .d (.list ((lawSE W ds).map eR)), .u]) (sFor (iT (xs := ds.map eD) (dv 1)) ?_) (b1 (sRet (dv 2)))
  have := for_acc (X := (cxOf CX0 P w K mg base ["_law_world_here", "_law_row", "_law_found", "_law_deed_here"] "_law_script_edges" (defScope (top 103)) f cdv A outer s' H Ex).nox) (G := G) (tg := ?_) (body := ?_) eD (fun acc => [.d (eW W), .d (eDs ds), .d (.list (acc.map eR)), .u]) (lawDE W) 20000 ds [] (by
    show 0 + (lawSE W ds).length ≤ _
    omega) fun d hdm acc hacc => ?_
  · exact this
  · refine fS (gNm 3 nd) (bC (sSet 2 (dTo (dCatL ?_ (dv 2) (dCall (c_law_deed_edges E hW (hd d hdm)) hr (aC (dv 0) (aC (dv 3) aN)))) (map_app acc _)) nd) (bW [3]))
    rw [List.length_map, List.length_map]
    omega
end Kx
end Sec_LJ
section Sec_LK
set_option maxRecDepth 100000
/-! The law's cells, joined, word, zero. -/
namespace Kx
open PySem PySem.Spec PyProof.Rows L2 DL AM
section
variable {X : Cx} {G : Fr0} {r : Rho} {b : Expr} {pos : PySem.Pos} {xs : List PyData} {y : PyData} {k : Bool}
theorem tNeM (n : Nat) {nm : Str} {np : PySem.Pos} {ow : Bool} (hu : X.A.units + 64 < cLine) (hx : SeqAt.shaped (.list xs) = true) (hy : SeqAt.shaped y = true) (hk : (!PyData.eqv (.list xs) y) = k) (hb : DE X G r b y r) (hr : r[n]? = some (Sv.m ow xs) := by rfl) (hN : X.N[n]? = some nm := by rfl)
    (hv : Vis X.env.scope nm := by first | exact Or.inl rfl | exact Or.inr (Or.inl rfl) | exact Or.inr (Or.inr rfl)) (hd : (nm == ("__debug__" : Str)) = false := by decide) (hcd : (nm == ("__classdict__" : Str)) = false := by decide) : DT X G r (.Compare (.Name nm np) [.NotEq] [b] pos) k r :=
  pt_imp (pt_cmpR (op_neD hu) (pe_var hN hv hd hcd) hb (nomark _)) fun σ H Q ⟨M, o, q⟩ => by
    obtain ⟨a, vs, e1, e2, e3, e4, _⟩ := o.mv n ow xs hr
    refine ⟨_, e1, M, o, fun u H2 o2 s2 dy => ?_⟩
    obtain ⟨a', vs', f1, f2, f3, f4, _⟩ := o2.mv n ow xs hr
    rw [e1] at f1
    cases f1
    exact neD hk hx hy _ u H2 _ (.lst (SqL.of f3) (dpa_mono msk_le _ _ f4)) (dp_mono msk_le _ _ dy) ⟨k, rfl, q H2 o2 s2⟩
end
theorem ixN_last (n : Nat) : ixN (n + 1) (-1) = some n := by
  unfold ixN
  rw [if_neg (by omega), if_pos (by omega)]
  exact congrArg some (by omega)
theorem atI_last {α : Type} (l : List α) (x : α) : atI (l ++ [x]) (-1) = some x := by
  unfold atI
  rw [List.length_append, List.length_singleton, ixN_last]
  simp
variable {P : Program} {w : World} {K : PySem.W.Frag} {mg : Str → Option Value} {base : Heap}
theorem sc_law_cells : Sc ["_law_rims", "_law_rates", "_law_found", "_law_one", "_law_other"] ["_law_rims"] 101 := ⟨rfl, rfl, rfl, by decide +kernel, rfl, by decide +kernel, by decide +kernel⟩
theorem c_law_cells (E : En K mg) {l : List Rate} (h : ∀ r ∈ l, Rt r) (hl : l.length ≤ 900000) (hS : FewR (LOW :: HIGH :: l)) : Cal P w K mg base 2 "_law_cells" [.list (l.map eR)] (.list ((cellsOf mediant l).map (eRow eR))) := by
  obtain ⟨f, fd, F, hm⟩ := E.f__law_cells
  have nd := sc_law_cells.nd
  have sz := sizeLine_eq
  have h' : ∀ r ∈ LOW :: HIGH :: l, Rt r := fun r hr => by
    rcases List.mem_cons.mp hr with e | hr
    · rw [e]; exact rt_low
    · rcases List.mem_cons.mp hr with e | hr
      · rw [e]; exact rt_high
      · exact h r hr
  refine cal_of (bg := []) F sc_law_cells hm (fun _ _ _ _ _ _ us hl => match us, hl with | [_], _ => rfl) rfl (by decide) fun f cdv A outer s' H Ex G hr => ?_
  have srt : ∀ r ∈ sortR (LOW :: HIGH :: l), Rt r := fun r hr => h' r (((sortR_ok fun z hz => (h' z hz).red).2 r).mp hr)
  have slen : (sortR (LOW :: HIGH :: l)).length < 4095 := by
    obtain ⟨S, h1, h2⟩ := hS
    have := sortR_len h' h2
    omega
  refine bC (r1 := [.d (.list (l.map eR)), .d (.list ((sortR (LOW :: HIGH :: l)).map eR)), .u, .u, .u]) (sSet 1 (dCall (c_law_sorted E h' (by simp; omega) hS) hr (aC (dTo (dCatL (xs := [eR LOW, eR HIGH]) (ys := l.map eR) (by rw [List.length_map]; simp; omega) (dLst (by show 2 ≤ sizeLine; decide) (aC (dTup2 (aC di (aC di aN))) (aC (dTup2 (aC di (aC di aN))) aN))) (dv 0)) rfl) aN)) nd) ?_
  refine bC (r1 := [.d (.list (l.map eR)), .d (.list ((sortR (LOW :: HIGH :: l)).map eR)), .m true ([((LOW, true, LOW, true), LOW)].map (eRow eR)), .u, .u]) (sNewL 2 (xs := [eRow eR ((LOW, true, LOW, true), LOW)]) (by show 1 ≤ sizeLine; decide) (aC (dTup2 (aC (dTup4 (aC (dTup2 (aC di (aC di aN))) (aC db (aC (dTup2 (aC di (aC di aN))) (aC db aN))))) (aC (dTup2 (aC di (aC di aN))) aN))) aN) nd) ?_
  unfold cellsOf
  generalize sortR (LOW :: HIGH :: l) = rates at srt slen
  refine bC (r1 := [.d (.list (l.map eR)), .d (.list (rates.map eR)), .m true ((((LOW, true, LOW, true), LOW) :: AM.pairsOf mediant rates).map (eRow eR)), .u, .u])
    (sFor (iTo (iZ E.b_zip (ys := rates.tail.map eR) (aC (dv 1) (aC (dTo (dSlL (dv 1) (oS di) oN) ?_) aN))) (zp_enc rates rates.tail)) ?_) (bFz (i := 2) rfl (b1 (sRet (dv 2))))
  · congr 1
    have e := cut_drop (rates.map eR) 1
    cases rates with
    | nil => rfl
    | cons a t => exact e (by simp)
  · rw [pairs_flat]
    have hz : (rates.zip rates.tail).length ≤ 4095 := by
      rw [List.length_zip]; omega
    refine for_acc encP (fun acc => [.d (.list (l.map eR)), .d (.list (rates.map eR)), .m true (acc.map (eRow eR)), .u, .u]) _ 100000 _ [((LOW, true, LOW, true), LOW)] (by rw [flat_len2 _ fun _ => rfl]; simp only [List.length_singleton]; omega) fun q hq acc hacc => ?_
    have q1 := srt q.1 (List.of_mem_zip hq).1
    have q2 := srt q.2 (List.mem_of_mem_tail (List.of_mem_zip hq).2)
    have n1 := q1.red.q
    have n2 := q2.red.q
    have n3 := q1.Q
    have n4 := q2.Q
    have hacc : acc.length + 2 ≤ 100000 := hacc
    rw [show acc ++ [((q.1, false, q.2, false), mediant q.1 q.2), ((q.2, true, q.2, true), q.2)] = (acc ++ [((q.1, false, q.2, false), mediant q.1 q.2)]) ++ [((q.2, true, q.2, true), q.2)] by simp]
    refine fS (gTu (gC (gNm 3 nd) (gC (gNm 4 nd) gN))) ?_
    refine bC (r1 := [.d (.list (l.map eR)), .d (.list (rates.map eR)), .m true ((acc ++ [((q.1, false, q.2, false), mediant q.1 q.2)]).map (eRow eR)), .d (eR q.1), .d (eR q.2)]) ?_ ?_
    · rw [List.map_append]
      exact sApp 2 (x := eRow eR ((q.1, false, q.2, false), mediant q.1 q.2)) (dTup2 (aC (dTup4 (aC (dv 3) (aC db (aC (dv 4) (aC db aN))))) (aC (dCall (c_law_lowest E (t := q.1.1 + q.2.1) (b := q.1.2 + q.2.2) (by omega) (by omega)) (hr.mono (by decide)) (aC (dAdd (dI (xs := [.int q.1.1, .int q.1.2]) (dv 3) di) (dI (xs := [.int q.2.1, .int q.2.2]) (dv 4) di)) (aC (dAdd (dI (xs := [.int q.1.1, .int q.1.2]) (dv 3) di) (dI (xs := [.int q.2.1, .int q.2.2]) (dv 4) di)) aN))) aN))) (by rw [List.length_map]; omega)
    · have hlen : (acc ++ [((q.1, false, q.2, false), mediant q.1 q.2)]).length < 1000000 := by rw [List.length_append]; show acc.length + 1 < _; omega
      generalize acc ++ [((q.1, false, q.2, false), mediant q.1 q.2)] = acc2 at hlen
      refine bC (r1 := [.d (.list (l.map eR)), .d (.list (rates.map eR)), .m true ((acc2 ++ [((q.2, true, q.2, true), q.2)]).map (eRow eR)), .d (eR q.1), .d (eR q.2)]) ?_ (bW [3, 4])
      rw [List.map_append]
      exact sApp 2 (x := eRow eR ((q.2, true, q.2, true), q.2)) (dTup2 (aC (dTup4 (aC (dv 4) (aC db (aC (dv 4) (aC db aN))))) (aC (dv 4) aN))) (by rw [List.length_map]; omega)
end Kx
end Sec_LK
section Sec_LM
set_option maxRecDepth 100000
/-! The law's joined, word, zero. -/
namespace Kx
open PySem PySem.Spec PyProof.Rows L2 DL AM
variable {P : Program} {w : World} {K : PySem.W.Frag} {mg : Str → Option Value} {base : Heap}
abbrev WRow := Span × Word
abbrev eWRow : WRow → PyData := eRow eWord
theorem lay_WRows : ∀ l : List WRow, PyData.canLayAll0 (l.map eWRow) = true ∧ PyData.depthAll (l.map eWRow) ≤ 4
  | [] => by simp [PyData.canLayAll0, PyData.depthAll]
  | x :: l => by
    obtain ⟨h1, h2⟩ := lay_WRows l
    have hs : PyData.strOk (wordS x.2) = true := by cases x.2 <;> decide +kernel
    have e1 : (eWRow x).canLay0 = true := by simp [eWRow, eRow, eSpan, eR, eWord, PyData.canLay0, PyData.canLayAll0, hs]
    have e2 : (eWRow x).depth ≤ 3 := by simp [eWRow, eRow, eSpan, eR, eWord, PyData.depth, PyData.depthAll]
    refine ⟨by rw [List.map_cons, PyData.canLayAll0, e1, h1]; rfl, ?_⟩
    rw [List.map_cons, PyData.depthAll]
    omega
theorem sh_WRows (l : List WRow) : SeqAt.shaped (.list (l.map eWRow)) = true := by
  obtain ⟨h1, h2⟩ := lay_WRows l
  have h3 : (PyData.list (l.map eWRow)).depth ≤ 64 := by
    rw [PyData.depth]
    omega
  simp [SeqAt.shaped, PyData.canLay0, h1, h3]
theorem word_eq (a b : Word) : (wordS a == wordS b) = decide (a = b) := by cases a <;> cases b <;> decide
theorem sc_law_joined : Sc ["_law_rows", "_law_found", "_law_span", "_law_thing"] ["_law_rows"] 102 := ⟨rfl, rfl, rfl, by decide +kernel, rfl, by decide +kernel, by decide +kernel⟩
theorem lawJoinGo_len {α : Type} [DecidableEq α] : ∀ (l : List (Span × α)) (last : Span × α), (lawJoinGo l last).length ≤ l.length + 1
  | [], last => Nat.le_refl _
  | (s, x) :: l, last => by
    unfold lawJoinGo
    split
    · exact Nat.le_succ_of_le (lawJoinGo_len l _)
    · exact Nat.succ_le_succ (lawJoinGo_len l (s, x))
/-- the loop of joined -/
theorem for_ljoin {S : Rho → PyData → Out → Prop} (ρ : List WRow → Rho) (h : ∀ (found : List WRow) (last : WRow) (s : Span) (x : Word), found.length ≤ 1000000 →
      S (ρ (found ++ [last])) (eWRow (s, x)) (.nx (if last.2 = x then ρ (found ++ [((last.1.1, last.1.2.1, s.2.2.1, s.2.2.2), x)]) else ρ ((found ++ [last]) ++ [(s, x)])))) :
    ∀ (l : List WRow) (found : List WRow) (last : WRow), found.length + l.length ≤ 1000000 → ForR S (ρ (found ++ [last])) (l.map eWRow) (.nx (ρ (found ++ lawJoinGo l last)))
  | [], found, last, _ => .nil
  | (s, x) :: l, found, last, hl => by
    rw [List.length_cons] at hl
    have h1 := h found last s x (by omega)
    rw [List.map_cons]
    unfold lawJoinGo
    split
    · rename_i c
      rw [if_pos c] at h1
      exact .step h1 (for_ljoin ρ h l found _ (by omega))
    · rename_i c
      rw [if_neg c] at h1
      refine .step h1 ?_
      have := for_ljoin ρ h l (found ++ [last]) (s, x) (by rw [List.length_append, List.length_singleton]; omega)
      rw [List.append_assoc found [last] (lawJoinGo l (s, x))] at this
      exact this
theorem set_last {α β : Type} (e : α → β) (l : List α) (a b : α) : ((l ++ [a]).map e).set l.length (e b) = (l ++ [b]).map e := by
  rw [List.map_append, List.map_append]
  simp
theorem c_law_joined (E : En K mg) {rows : List WRow} (hl : rows.length ≤ 500000) : Cal P w K mg base 1 "_law_joined" [.list (rows.map eWRow)] (.list ((lawJoined rows).map eWRow)) := by
  obtain ⟨f, fd, F, hm⟩ := E.f__law_joined
  have nd := sc_law_joined.nd
  have sz := sizeLine_eq
  refine cal_of (bg := []) F sc_law_joined hm (fun _ _ _ _ _ _ us hl => match us, hl with | [_], _ => rfl) rfl (by decide) fun f cdv A outer s' H Ex G hr => ?_
  refine bC (r1 := [.d (.list (rows.map eWRow)), .m true [], .u, .u]) (sNewL 1 (Nat.zero_le _) aN nd) ?_
  refine bC (r1 := [.d (.list (rows.map eWRow)), .m true ((lawJoined rows).map eWRow), .u, .u]) (sFor (iL (dv 0)) ?_) (bFz (i := 1) rfl (b1 (sRet (dv 1))))
  cases rows with
  | nil => exact .nil
  | cons row l =>
  refine .step (r1 := [.d (.list ((row :: l).map eWRow)), .m true (([] ++ [row]).map eWRow), .u, .u]) ?_ (for_ljoin (fun found => [.d (.list ((row :: l).map eWRow)), .m true (found.map eWRow), .u, .u]) ?_ l [] row (by simp at hl ⊢; omega))
  · refine fS (gTu (gC (gNm 2 nd) (gC (gNm 3 nd) gN))) ?_
    refine bIf (k := false) (tW (wAndF (tNeM 1 hr.units (sh_WRows []) (by decide +kernel) rfl dLst0))) (fun h => absurd h (by decide)) fun _ => ?_
    exact brN (b1 (sApp 1 (us := []) (x := eWRow row) (dTup2 (aC (dv 2) (aC (dv 3) aN))) (by show 0 < sizeLine; decide))) (bW [2, 3])
  · intro found last s x hf
    refine fS (gTu (gC (gNm 2 nd) (gC (gNm 3 nd) gN))) ?_
    have hne : (!PyData.eqv (.list ((found ++ [last]).map eWRow)) (.list [])) = true := by
      cases found <;> simp [PyData.eqv, PyData.eqvAll]
    have hat : atI ((found ++ [last]).map eWRow) (-1) = some (eWRow last) := by
      rw [List.map_append]
      exact atI_last _ _
    by_cases c : last.2 = x
    · rw [if_pos c]
      refine bIf (k := true) (tW (wAndT (tNeM 1 hr.units (sh_WRows _) (by decide +kernel) hne dLst0) (wAnd1 (tTo (tEqS (p := wordS last.2) (q := wordS x) (dI (xs := [eSpan last.1, eWord last.2]) (dIxM 1 (xs := (found ++ [last]).map eWRow) (x := eWRow last) hat (dNeg di)) di) (dv 3)) (by rw [word_eq]; exact decide_eq_true c))))) (fun _ => ?_) fun h => absurd h (by decide)
      refine brN (b1 (sMst 1 (us := (found ++ [last]).map eWRow) (n := found.length) (x := eWRow ((last.1.1, last.1.2.1, s.2.2.1, s.2.2.2), x)) (dTup2 (aC (x := eSpan (last.1.1, last.1.2.1, s.2.2.1, s.2.2.2)) (dTo (dCatT (xs := [eR last.1.1, .bool last.1.2.1]) (ys := [eR s.2.2.1, .bool s.2.2.2]) (by show 4 ≤ sizeLine; decide)
        (dTo (dSlT (xs := [eR last.1.1, .bool last.1.2.1, eR last.1.2.2.1, .bool last.1.2.2.2]) (dI (xs := [eSpan last.1, eWord last.2]) (dIxM 1 (xs := (found ++ [last]).map eWRow) (x := eWRow last) hat (dNeg di)) di) oN (oS di)) rfl) (dTo (dSlT (xs := [eR s.1, .bool s.2.1, eR s.2.2.1, .bool s.2.2.2]) (dv 2) (oS di) oN) rfl)) rfl) (aC (dv 3) aN))) (dNeg di) ?_)) (bTo (bW [2, 3]) ?_)
      · rw [List.length_map, List.length_append]
        exact ixN_last _
      · show Out.nx [.d _, .m true (((found ++ [last]).map eWRow).set found.length _), .u, .u] = _
        rw [set_last]
    · rw [if_neg c]
      refine bIf (k := false) (tW (wAndT (tNeM 1 hr.units (sh_WRows _) (by decide +kernel) hne dLst0) (wAnd1 (tTo (tEqS (p := wordS last.2) (q := wordS x) (dI (xs := [eSpan last.1, eWord last.2]) (dIxM 1 (xs := (found ++ [last]).map eWRow) (x := eWRow last) hat (dNeg di)) di) (dv 3)) (by rw [word_eq]; exact decide_eq_false c))))) (fun h => absurd h (by decide)) fun _ => ?_
      have hlen : (found ++ [last]).length < 1000002 := by rw [List.length_append, List.length_singleton]; omega
      generalize found ++ [last] = acc2 at hlen
      refine brN (r1 := [.d (.list ((row :: l).map eWRow)), .m true ((acc2 ++ [(s, x)]).map eWRow), .d (eSpan s), .d (eWord x)]) (b1 ?_) (bW [2, 3])
      rw [List.map_append]
      exact sApp 1 (x := eWRow (s, x)) (dTup2 (aC (dv 2) (aC (dv 3) aN))) (by rw [List.length_map]; omega)
theorem sc_law_word : Sc ["_law_mine", "_law_yours", "_law_rate", "_law_far"] ["_law_mine", "_law_yours", "_law_rate"] 104 := ⟨rfl, rfl, rfl, by decide +kernel, rfl, by decide +kernel, by decide +kernel⟩
theorem c_law_word (E : En K mg) {a b : Stand} {r : Rate} (h : Sl r) : Cal P w K mg base 1 "_law_word" [eStandL a, eStandL b, eR r] (eWord (lawWord (a.home, a.far) (b.home, b.far) r)) := by
  obtain ⟨f, fd, F, hm⟩ := E.f__law_word
  have nd := sc_law_word.nd
  obtain ⟨g1, g2, g3, g4⟩ := h
  refine cal_of (bg := []) F sc_law_word hm (fun _ _ _ _ _ _ us hl => match us, hl with | [_, _, _], _ => rfl) rfl (by decide) fun f cdv A outer s' H Ex G hr => ?_
  refine bC (r1 := [.d (eStandL a), .d (eStandL b), .d (eR r), .d (.int (farOf (a.home, a.far) (b.home, b.far) r))]) (sSet 3 (dAdd (dMul (by simp only [CMul]; omega) (dSub (dI (dv 0) di) (dI (dv 1) di)) (dI (dv 2) di)) (dMul (by simp only [CMul]; omega) (dSub (dI (dv 0) di) (dI (dv 1) di)) (dI (dv 2) di))) nd) ?_
  refine b1 (sRet' (dIf (tEqI (dv 3) di) (fun _ => ds) (fun _ => dIf (tGt (dv 3) di) (fun _ => ds) (fun _ => ds))) ?_)
  unfold lawWord
  generalize farOf (a.home, a.far) (b.home, b.far) r = x
  simp only [beq_iff_eq, decide_eq_true_eq]
  split
  · rfl
  · split <;> rfl
theorem sc_law_zero : Sc ["_law_mine", "_law_yours", "_law_home", "_law_far"] ["_law_mine", "_law_yours"] 105 := ⟨rfl, rfl, rfl, by decide +kernel, rfl, by decide +kernel, by decide +kernel⟩
theorem c_law_zero (E : En K mg) {a b : Stand} (ha : (0 ≤ a.far ∧ a.far < 2 ^ 60)) (hb : 0 ≤ b.far ∧ b.far < 2 ^ 60) : Cal P w K mg base 2 "_law_zero" [eStandL a, eStandL b] (.list ((lawZero (a.home, a.far) (b.home, b.far)).map eR)) := by
  obtain ⟨f, fd, F, hm⟩ := E.f__law_zero
  have nd := sc_law_zero.nd
  refine cal_of (bg := []) F sc_law_zero hm (fun _ _ _ _ _ _ us hl => match us, hl with | [_, _], _ => rfl) rfl (by decide) fun f cdv A outer s' H Ex G hr => ?_
  refine bC (r1 := [.d (eStandL a), .d (eStandL b), .d (.int (a.home - b.home)), .d (.int (b.far - a.far))]) (sPar 2 3 (aC (dSub (dI (dv 0) di) (dI (dv 1) di)) (aC (dSub (dI (dv 1) di) (dI (dv 0) di)) aN)) nd) ?_
  have hz : zeroOf (a.home, a.far) (b.home, b.far) = if b.far - a.far < 0 then (-(a.home - b.home), -(b.far - a.far)) else (a.home - b.home, b.far - a.far) := by
    unfold zeroOf
    dsimp only
    rw [Int.zero_sub, Int.zero_sub]
  refine bIf2 (r2 := [.d (eStandL a), .d (eStandL b), .d (.int (zeroOf (a.home, a.far) (b.home, b.far)).1), .d (.int (zeroOf (a.home, a.far) (b.home, b.far)).2)]) (tLt (dv 3) di) (fun h => ?_) (fun h => ?_) ?_
  · rw [hz, if_pos (of_decide_eq_true h)]
    exact b1 (sPar 2 3 (aC (dNeg (dv 2)) (aC (dNeg (dv 3)) aN)) nd)
  · rw [hz, if_neg (of_decide_eq_false h)]
    exact bN
  have hf : 0 ≤ (zeroOf (a.home, a.far) (b.home, b.far)).2 ∧ (zeroOf (a.home, a.far) (b.home, b.far)).2 < 2 ^ 60 := by
    rw [hz]
    split <;> (dsimp only; omega)
  unfold lawZero
  generalize zeroOf (a.home, a.far) (b.home, b.far) = z at hf
  have hk : (z.2 == 0 || (decide (z.1 * 4 < z.2) || decide (4 * z.2 < z.1))) = decide (z.2 = 0 ∨ z.1 * 4 < z.2 ∨ 4 * z.2 < z.1) := by
    rw [Bool.eq_iff_iff]
    simp
  refine bIf (k := decide (z.2 = 0 ∨ z.1 * 4 < z.2 ∨ 4 * z.2 < z.1)) (tTo (tW (wOr (tEqI (dv 3) di) fun _ => wOr (tLt (dMul (by simp only [CMul]; omega) (dv 2) di) (dv 3)) fun _ => wOr1 (tGt (dv 2) (dMul (by simp only [CMul]; omega) di (dv 3))))) hk) (fun h => brR (b1 (sRet' dLst0 ?_))) fun h => br0 ?_
  · rw [if_pos (of_decide_eq_true h)]; rfl
  · have h := of_decide_eq_false h
    rw [if_neg h]
    exact b1 (sRet (dLst1 (dCall (c_law_lowest E (by omega) (by omega)) hr (aC (dv 2) (aC (dv 3) aN)))))
end Kx
end Sec_LM
section Sec_LA
set_option maxRecDepth 100000
/-! The law's lists: few rates, small rates; both scripts. -/
namespace Kx
open PySem PySem.Spec PyProof.Rows L2 DL AM
section
variable {W : Wd} {one other : List Deed} {p : Int × Int}
theorem ro_v {o : Ro} (h : VRo o) : RoV o := ⟨h.k.s0, h.n⟩
theorem dv_of (hW : WOk W) {d : Deed} (hd : DOk W d) : DV W d := by
  cases d with
  | ex bk i n =>
    have hv := rule_v hW hd
    exact ⟨⟨⟨hv.k.s0, hv.n⟩, hv.k.k0, hv.k.k1⟩, by have := hd.2.2.lo; omega⟩
  | over i q m =>
    have hv := shop_v hW hd.1
    exact ⟨ro_v hv.a, ro_v hv.b, by have := hd.2.2.1.lo; omega⟩
  | buy i q home => exact ⟨ro_v (shop_v hW hd.1).a, by have := hd.2.2.lo; omega⟩
  | ret i q home => exact ⟨ro_v (shop_v hW hd.1).a, by have := hd.2.2.1.lo; omega⟩
theorem two_of (hW : WOk W) (h1 : ScOk W one) (h2 : ScOk W other) : Two W one other :=
  ⟨fun d hd => dv_of hW ((both_ok h1 h2).1 d hd), fun r hr => rng_rim (edges_ok h1 h2 r hr).1.red (edges_ok h1 h2 r hr).2⟩
/-! ### few edges -/
def lawF (W : Wd) : Deed → List Rate
  | .ex bk i n => lawL (W.rule i bk).m (W.rule i bk).s n (n * (100 - (W.rule i bk).k)) bk
  | .over i q _ => lawL (W.shop i).1.m (W.shop i).1.s q (q * (100 - 0)) false
  | .buy i q _ => lawL (W.shop i).1.m (W.shop i).1.s q (q * (100 - 0)) false
  | .ret i q _ => lawL (W.shop i).1.m (W.shop i).1.s q (q * (100 - 0)) false
def lawC (W : Wd) : List Rate := (oneTo 12).flatMap fun x => lawL (W.shop 0).2.1.m (W.shop 0).2.1.s x (x * (100 - 0)) true
theorem lawDE_sub (hs : W.shops.length ≤ 1) {d : Deed} (hd : DOk W d) : ∀ r ∈ lawDE W d, r ∈ lawF W d ∨ r ∈ lawC W := fun r hr => by
  cases d with
  | ex bk i n => exact .inl hr
  | over i q m =>
    rcases List.mem_append.mp hr with h | h
    · exact .inl h
    · right
      have hi := (List.getElem?_eq_some_iff.mp hd.1).1
      have e : i = 0 := by omega
      subst e
      obtain ⟨x, hx, h⟩ := List.mem_flatMap.mp h
      have hx' := mem_upTo.mp hx
      have := hd.2.2.2.hi
      exact List.mem_flatMap.mpr ⟨x, mem_upTo.mpr ⟨hx'.1, by omega⟩, h⟩
  | buy i q home => exact .inl hr
  | ret i q home => exact .inl hr
theorem lawF_len {d : Deed} (hd : DOk W d) : (lawF W d).length ≤ 60 := by
  cases d with
  | ex bk i n =>
    obtain ⟨_, h3, h4, h5⟩ := hd
    exact lawL_len h3.s0 h3.s1 (by omega : 0 < n) h5
  | over i q m =>
    obtain ⟨h1, h2, h3, h4⟩ := hd
    exact lawL_len h2.a.s0 h2.a.s1 (by have := h3.lo; omega : 0 < q) h3.hi
  | buy i q home =>
    obtain ⟨h1, h2, h3⟩ := hd
    exact lawL_len h2.a.s0 h2.a.s1 (by have := h3.lo; omega : 0 < q) h3.hi
  | ret i q home =>
    obtain ⟨h1, h2, h3, _⟩ := hd
    exact lawL_len h2.a.s0 h2.a.s1 (by have := h3.lo; omega : 0 < q) h3.hi
theorem shop0 (hW : WOk W) : 0 < (W.shop 0).2.1.s ∧ (W.shop 0).2.1.s ≤ 10 := by
  cases h : W.shops with
  | nil =>
    have : W.shop 0 = (ro0, ro0, false) := by unfold Wd.shop; rw [h]; rfl
    rw [this]
    decide
  | cons s l =>
    have : W.shop 0 = s := by unfold Wd.shop; rw [h]; rfl
    rw [this]
    have := (hW.s s (by rw [h]; exact List.mem_cons_self)).b.k
    exact ⟨this.s0, this.s1⟩
theorem lawC_len (hW : WOk W) : (lawC W).length ≤ 720 := by
  have l2 := flat_len (f := fun x => lawL (W.shop 0).2.1.m (W.shop 0).2.1.s x (x * (100 - 0)) true) (es := oneTo 12) (N := 60) fun x hx => lawL_len (shop0 hW).1 (shop0 hW).2 (by have := mem_upTo.mp hx; omega) (by have := mem_upTo.mp hx; omega)
  have l3 := one12 (m := 12) (by decide)
  unfold lawC
  omega
theorem few_of (hW : WOk W) (hs : W.shops.length ≤ 1) {ds : List Deed} (h : ∀ d ∈ ds, DOk W d) (hl : ds.length ≤ 6) : Few1 (scriptEdges W ds) := by
  refine ⟨LOW :: HIGH :: (ds.flatMap (lawF W) ++ lawC W), ?_, fun r hr => ?_⟩
  · have h1 := flat_len (f := lawF W) (es := ds) (N := 60) fun d hd => lawF_len (h d hd)
    have h2 := lawC_len hW
    rw [List.length_cons, List.length_cons, List.length_append]
    omega
  · rcases List.mem_cons.mp hr with e | hr
    · exact e ▸ List.mem_cons_self
    · rcases List.mem_cons.mp hr with e | hr
      · exact e ▸ List.mem_cons_of_mem _ List.mem_cons_self
      · refine List.mem_cons_of_mem _ (List.mem_cons_of_mem _ ?_)
        obtain ⟨d, hd, hr⟩ := List.mem_flatMap.mp ((mem_lawSE hW h r).mpr hr)
        rcases lawDE_sub hs (h d hd) r hr with k | k
        · exact List.mem_append_left _ (List.mem_flatMap.mpr ⟨d, hd, k⟩)
        · exact List.mem_append_right _ k
/-! ### what is left -/
theorem led_nn {r : Rate} (hr : Rng r) : ∀ (ds : List Deed) (i : Nat) (st : Stand) (found : List Int), (∀ d ∈ ds, DOk W d) → 0 ≤ st.home → 0 ≤ st.far → 0 ≤ (ledGo W r i st found ds).1.home ∧ 0 ≤ (ledGo W r i st found ds).1.far
  | [], i, st, found, _, h1, h2 => ⟨h1, h2⟩
  | d :: ds, i, st, found, h, h1, h2 => by
    have hd := h d List.mem_cons_self
    unfold ledGo
    cases ht : told W d r with
    | none => exact ⟨h1, h2⟩
    | some x =>
      dsimp only
      have hx := (told_bd (dok_db hd) hr ht).1
      cases hb : behind st d (some x) with
      | none => exact ⟨h1, h2⟩
      | some st' =>
        dsimp only
        obtain ⟨k1, k2⟩ := behind_nn (W := W) h1 h2 hx hd hb
        exact led_nn hr ds (i + 1) st' _ (fun d hd => h d (List.mem_cons_of_mem _ hd)) k1 k2
theorem left_bd {ds : List Deed} (h : ScOk W ds) {r : Rate} (hr : Rng r) (hp : (0 ≤ p.1 ∧ p.1 ≤ 50) ∧ 0 ≤ p.2 ∧ p.2 ≤ 50) : (0 ≤ (left W ds p r).2 ∧ (left W ds p r).2 < 2 ^ 60) ∧ Bd (costs W ds p r) := by
  have hb := costs_Bd (p := p) h hr
  have hn := led_nn hr ds 0 (purse0 p) [] h.d hp.1.1 hp.2.1
  refine ⟨⟨hn.2, ?_⟩, hb⟩
  have hb2 := hb.b
  unfold costs at hb2
  dsimp only at hb2
  omega
theorem zero_left {r : Rate} : zeroOf (left W one p r) (left W other p r) = zeroOf (costs W other p r) (costs W one p r) := by
  unfold zeroOf costs
  dsimp only
  have e1 : p.1 - (left W other p r).1 - (p.1 - (left W one p r).1) = (left W one p r).1 - (left W other p r).1 := by omega
  have e2 : p.2 - (left W one p r).2 - (p.2 - (left W other p r).2) = (left W other p r).2 - (left W one p r).2 := by omega
  rw [e1, e2]
theorem zero_rt (h1 : ScOk W one) (h2 : ScOk W other) {r z : Rate} (hr : Rng r) (hz : z ∈ lawZero (left W one p r) (left W other p r)) : Rt z := by
  have bd := zeroOf_bd (costs_Bd (p := p) h2 hr) (costs_Bd (p := p) h1 hr)
  rw [← zero_left] at bd
  unfold lawZero at hz
  split at hz
  · exact absurd hz (by simp)
  · rename_i c
    rw [List.mem_singleton.mp hz]
    exact rt_lowest (by omega) (by omega) (by omega) (by omega)
theorem zero_len (a b : Int × Int) : (lawZero a b).length ≤ 1 := by
  unfold lawZero
  split <;> simp
/-! ### cells -/
theorem mcell_ok {l : List Rate} (h : ∀ r ∈ l, Rt r ∧ Rng r) {c : Span × Rate} (hc : c ∈ cellsOf mediant l) : Sl c.2 ∧ Rng c.2 := by
  have h' := low_high h
  obtain ⟨m, e, ha, hr, hm⟩ := sort_ends fun r hr => rng_rim (h r hr).1.red (h r hr).2
  have sl : ∀ r ∈ LOW :: m, Sl r ∧ Rng r := fun r hr => by
    obtain ⟨k1, k2⟩ := h' r ((hm r).mp hr)
    exact ⟨⟨k1.red.p, k1.red.q, by have := k1.P; omega, by have := k1.Q; omega⟩, k2⟩
  unfold cellsOf at hc
  rw [e] at hc
  rcases List.mem_cons.mp hc with hc | hc
  · subst hc
    exact sl LOW List.mem_cons_self
  · rcases mem_pairs m LOW ha c hc with ⟨b, hb, e⟩ | ⟨x, hx, y, hy, e, hxy, hn⟩
    · subst e
      exact sl b (List.mem_cons_of_mem _ hb)
    · subst e
      obtain ⟨m1, m2, m3⟩ := mid_mediant x y (hr x hx).red (hr y hy).red hxy
      obtain ⟨x1, _⟩ := h' x ((hm x).mp hx)
      obtain ⟨y1, _⟩ := h' y ((hm y).mp hy)
      have lx := (hr x hx).lo
      have ly := (hr y hy).hi
      refine ⟨⟨m1.p, m1.q, ?_, ?_⟩, rim_rng ⟨m1, by show val LOW ≤ val (mediant x y); grind, by show val (mediant x y) ≤ val HIGH; grind⟩⟩
      · have : (mediant x y).1 ≤ x.1 + y.1 := Int.ediv_le_self _ (by have := x1.red.p; have := y1.red.p; omega)
        have := x1.P
        have := y1.P
        show (mediant x y).1 < _
        omega
      · have : (mediant x y).2 ≤ x.2 + y.2 := Int.ediv_le_self _ (by have := x1.red.q; have := y1.red.q; omega)
        have := x1.Q
        have := y1.Q
        show (mediant x y).2 < _
        omega
/-! ### the law's rims -/
def zeroAt (W : Wd) (one other : List Deed) (p : Int × Int) (c : Span × Rate) : List Rate := lawZero (left W one p c.2) (left W other p c.2)
def rims1 (W : Wd) (one other : List Deed) (p : Int × Int) : List Rate := lawSE W (one ++ other) ++ (cellsOf mediant (lawSE W (one ++ other))).flatMap (zeroAt W one other p)
theorem lawSE_ok (hW : WOk W) (h1 : ScOk W one) (h2 : ScOk W other) : ∀ r ∈ lawSE W (one ++ other), Rt r ∧ Rng r := fun r hr => edges_ok h1 h2 r ((mem_lawSE hW (both_ok h1 h2).1 r).mp hr)
theorem cells1 (hW : WOk W) (h1 : ScOk W one) (h2 : ScOk W other) : cellsOf mediant (lawSE W (one ++ other)) = cellsOf mediant (scriptEdges W (one ++ other)) :=
  cells_mem (fun r hr => (lawSE_ok hW h1 h2 r hr).1.red) fun r => mem_lawSE hW (both_ok h1 h2).1 r
theorem mem_rims1 (hW : WOk W) (h1 : ScOk W one) (h2 : ScOk W other) (r : Rate) : r ∈ rims1 W one other p ↔ r ∈ lawRims W one other p := by
  unfold rims1 lawRims
  rw [List.mem_append, List.mem_append, mem_lawSE hW (both_ok h1 h2).1, cells1 hW h1 h2]
  exact Iff.rfl
theorem rims1_ok (hW : WOk W) (h1 : ScOk W one) (h2 : ScOk W other) : ∀ r ∈ rims1 W one other p, Rt r ∧ Rng r := fun r hr => by
  rcases List.mem_append.mp hr with h | h
  · exact lawSE_ok hW h1 h2 r h
  · obtain ⟨c, hc, hz⟩ := List.mem_flatMap.mp h
    exact ⟨zero_rt h1 h2 (mcell_ok (lawSE_ok hW h1 h2) hc).2 hz, rim_rng (lawZero_rim r hz).1⟩
theorem few1_rims (hW : WOk W) (h1 : ScOk W one) (h2 : ScOk W other) (hS : Few1 (scriptEdges W (one ++ other))) : FewR (LOW :: HIGH :: lawSE W (one ++ other)) ∧ FewR (LOW :: HIGH :: rims1 W one other p) ∧
    (cellsOf mediant (lawSE W (one ++ other))).length ≤ 2601 ∧ (cellsOf mediant (rims1 W one other p)).length ≤ 8200 := by
  obtain ⟨S, s1, s2⟩ := hS
  have mem : ∀ r ∈ LOW :: HIGH :: lawSE W (one ++ other), r ∈ S := fun r hr => s2 r (by
    rw [List.mem_cons, List.mem_cons] at hr ⊢
    rwa [mem_lawSE hW (both_ok h1 h2).1] at hr)
  have lc := cells_len2 (mid := mediant) (fun r hr => (lawSE_ok hW h1 h2 r hr).1) mem
  have lz := flat_len (f := zeroAt W one other p) (es := cellsOf mediant (lawSE W (one ++ other))) (N := 1) fun c _ => zero_len _ _
  have few2 : FewR (LOW :: HIGH :: rims1 W one other p) := by
    refine ⟨S ++ (cellsOf mediant (lawSE W (one ++ other))).flatMap (zeroAt W one other p), ?_, fun r hr => ?_⟩
    · rw [List.length_append]; omega
    · rw [List.mem_cons, List.mem_cons] at hr
      rcases hr with e | e | hr
      · exact List.mem_append_left _ (s2 r (by rw [e]; exact List.mem_cons_self))
      · exact List.mem_append_left _ (s2 r (by rw [e]; exact List.mem_cons_of_mem _ List.mem_cons_self))
      · rcases List.mem_append.mp hr with h | h
        · exact List.mem_append_left _ (mem r (List.mem_cons_of_mem _ (List.mem_cons_of_mem _ h)))
        · exact List.mem_append_right _ h
  exact ⟨⟨S, by omega, mem⟩, few2, by omega, cells_len (fun r hr => (rims1_ok hW h1 h2 r hr).1) few2⟩
theorem rims1_len (h1 : ScOk W one) (h2 : ScOk W other) (hc : (cellsOf mediant (lawSE W (one ++ other))).length ≤ 2601) : (lawSE W (one ++ other)).length ≤ 12800 ∧ (lawSE W (one ++ other)).length + ((cellsOf mediant (lawSE W (one ++ other))).flatMap (zeroAt W one other p)).length ≤ 20000 := by
  have l1 := lawSE_len (both_ok h1 h2).1
  have l2 := (both_ok h1 h2).2
  have lz := flat_len (f := zeroAt W one other p) (es := cellsOf mediant (lawSE W (one ++ other))) (N := 1) fun c _ => zero_len _ _
  have := Nat.mul_le_mul_left 800 l2
  omega
/-- the law's rows -/
def rowAt (W : Wd) (one other : List Deed) (p : Int × Int) (c : Span × Rate) : WRow := (c.1, lawWord (left W one p c.2) (left W other p c.2) c.2)
theorem due_eq (hW : WOk W) (h1 : ScOk W one) (h2 : ScOk W other) : lawJoined ((cellsOf mediant (rims1 W one other p)).map (rowAt W one other p)) = cheaperRows W one other p := by
  rw [cheaper_due (two_of hW h1 h2), cells_mem (fun r hr => (rims1_ok hW h1 h2 r hr).1.red) (mem_rims1 hW h1 h2)]
  rfl
theorem flip_eq (hW : WOk W) (h1 : ScOk W one) (h2 : ScOk W other) : cheaperRows W other one p = (cheaperRows W one other p).map fun r => (r.1, r.2.flip) := by
  rw [cheaper_due (two_of hW h1 h2), cheaper_due (two_of hW h2 h1), due_flip (two_of hW h1 h2)]
theorem lawJoined_len {α : Type} [DecidableEq α] (l : List (Span × α)) : (lawJoined l).length ≤ l.length := by
  cases l with
  | nil => exact Nat.le_refl _
  | cons r l => exact lawJoinGo_len l r
end
end Kx
end Sec_LA
section Sec_LN
set_option maxRecDepth 100000
/-! The law itself. -/
namespace Kx
open PySem PySem.Spec PyProof.Rows L2 DL AM
variable {P : Program} {w : World} {K : PySem.W.Frag} {mg : Str → Option Value} {base : Heap}
abbrev lwN : List Str := ["_law_script_here", "_law_k", "_law_bag_here", "_law_world_here", "_law_one", "_law_other", "_law_purse", "_law_rims", "_law_span", "_law_rate", "_law_mine", "_law_yours", "_law_rows", "_law_due", "_law_back", "_law_word_here"]
theorem sc_law : Sc lwN ["_law_script_here"] 106 := ⟨rfl, rfl, rfl, by decide +kernel, rfl, by decide +kernel, by decide +kernel⟩
theorem eqv_refl {α : Type} (e : α → PyData) (h : ∀ x, PyData.eqv (e x) (e x) = true) : ∀ l : List α, PyData.eqvAll (l.map e) (l.map e) = true
  | [] => rfl
  | x :: l => by
    rw [List.map_cons, PyData.eqvAll, h x, eqv_refl e h l]
    rfl
theorem ne_refl {α : Type} (e : α → PyData) (h : ∀ x, PyData.eqv (e x) (e x) = true) (l : List α) : (!PyData.eqv (.list (l.map e)) (.list (l.map e))) = false := by
  rw [PyData.eqv, eqv_refl e h l]
  rfl
theorem eqv_WRow (x : WRow) : PyData.eqv (eWRow x) (eWRow x) = true := by
  obtain ⟨⟨⟨a, b⟩, i, ⟨c, d⟩, j⟩, u⟩ := x
  cases i <;> cases j <;> cases u <;> simp [eWRow, eRow, eSpan, eR, eWord, wordS, PyData.eqv, PyData.eqvAll]
theorem eqv_Rs (x : Rate) : PyData.eqv (eR x) (eR x) = true := by rw [eqv_R]; exact decide_eq_true rfl
theorem flat_one {α β : Type} (g : α → β) : ∀ l : List α, (l.flatMap fun x => [g x]) = l.map g
  | [] => rfl
  | x :: l => by rw [List.flatMap_cons, flat_one g l]; rfl
/-- what the law draws -/
structure Draw (P : Program) (w : World) (K : PySem.W.Frag) (mg : Str → Option Value) (base : Heap) (ns : List Int) (k : Nat) : Prop where
  ex : ∃ (g0 g1 g2 g3 g4 g5 g6 g7 : Bag) (W : Wd) (ds : List Deed) (d : Deed) (ds3 other : List Deed) (v u : Int),
    WOk W ∧ W.shops.length ≤ 1 ∧ ScOk W (ds ++ [d]) ∧ (ds ++ [d]).length ≤ 3 ∧ ScOk W other ∧ other.length ≤ 3 ∧ (0 ≤ v ∧ v < 30) ∧ (0 ≤ u ∧ u < 30) ∧
    CalF P w K mg base 1 "_law_bag" [.list (ns.map .int), .int k] (bL g0) ∧
    CalB P w K mg base 5 "_law_world" (bL g0) [.int 2, .int 1] (eW W) (bL g1) ∧
    CalB P w K mg base 5 "_law_script" (bL g1) [eW W, .int 2] (eDs ds) (bL g2) ∧
    CalB P w K mg base 4 "_law_deed" (bL g2) [eW W] (eD d) (bL g3) ∧
    CalB P w K mg base 5 "_law_script" (bL g3) [eW W, .int 3] (eDs ds3) (bL g4) ∧
    CalB P w K mg base 2 "_law_of" (bL g4) [.list [eDs [], eDs ds, eDs (ds ++ [d]).reverse, eDs ds3]] (eDs other) (bL g5) ∧
    CalB P w K mg base 1 "_law_take" (bL g5) [.int 30] (.int v) (bL g6) ∧
    CalB P w K mg base 1 "_law_take" (bL g6) [.int 30] (.int u) (bL g7)
theorem draw (E : En K mg) (ns : List Int) (k : Nat) (hk : k < 100) : Draw P w K mg base ns k := by
  obtain ⟨g0, h0, c0⟩ := c_bag (P := P) (w := w) (base := base) E ns k hk
  obtain ⟨W, g1, hW, _, hsh, h1, c1⟩ := c_law_world (P := P) (w := w) (base := base) E h0
  obtain ⟨ds, g2, hds, hdl, h2, c2⟩ := c_law_script (P := P) (w := w) (base := base) E hW h1 (most := 2) (by decide) (by decide)
  obtain ⟨d, g3, hd, h3, c3⟩ := c_law_deed (P := P) (w := w) (base := base) E hW h2
  obtain ⟨ds3, g4, hd3, hdl3, h4, c4⟩ := c_law_script (P := P) (w := w) (base := base) E hW h3 (most := 3) (by decide) (by decide)
  obtain ⟨x, g5, hx, h5, c5⟩ := c_of (P := P) (w := w) (base := base) E h4 [eDs [], eDs ds, eDs (ds ++ [d]).reverse, eDs ds3] (by simp) (by simp)
  obtain ⟨v, g6, hv, h6, c6⟩ := c_take (P := P) (w := w) (base := base) E h5 (m := 30) (by decide) (by decide)
  obtain ⟨u, g7, hu, h7, c7⟩ := c_take (P := P) (w := w) (base := base) E h6 (m := 30) (by decide) (by decide)
  have hone : ∀ y ∈ ds ++ [d], DOk W y := fun y hy => by
    rcases List.mem_append.mp hy with h | h
    · exact hds y h
    · rw [List.mem_singleton.mp h]; exact hd
  have hol : (ds ++ [d]).length ≤ 3 := by rw [List.length_append, List.length_singleton]; omega
  have hoth : ∃ other, x = eDs other ∧ (∀ y ∈ other, DOk W y) ∧ other.length ≤ 3 := by
    simp only [List.mem_cons, List.not_mem_nil, or_false] at hx
    rcases hx with e | e | e | e
    · exact ⟨[], e, nofun, by decide⟩
    · exact ⟨ds, e, hds, by omega⟩
    · exact ⟨_, e, fun y hy => hone y (List.mem_reverse.mp hy), by rw [List.length_reverse]; exact hol⟩
    · exact ⟨ds3, e, hd3, by omega⟩
  obtain ⟨other, rfl, ho1, ho2⟩ := hoth
  exact ⟨g0, g1, g2, g3, g4, g5, g6, g7, W, ds, d, ds3, other, v, u, hW, hsh, ⟨hone, by omega⟩, hol, ⟨ho1, by omega⟩, ho2, hv, hu, c0, c1, c2, c3, c4, c5, c6, c7⟩
theorem lj0 {p : Int × Int} (hp : (0 ≤ p.1 ∧ p.1 ≤ 50) ∧ 0 ≤ p.2 ∧ p.2 ≤ 50) : LJ 0 (purse0 p) [] := ⟨nofun, by show 0 ≤ 20 + 0; omega, hp.1.1, hp.2.1, rfl⟩
theorem purse_eq (p : Int × Int) : PyData.tuple ([PyData.int p.1, .int p.2] ++ [.list []]) = eStandL (purse0 p) := rfl
theorem flat_nil {α β : Type} : ∀ l : List α, (l.flatMap fun _ => ([] : List β)) = []
  | [] => rfl
  | x :: l => by rw [List.flatMap_cons, flat_nil l]; rfl
theorem cut_init (ds : List Deed) (d : Deed) : cut ((ds ++ [d]).map eD) none (some (-1)) = ds.map eD := by
  unfold cut
  have e : HT.sIx ((ds ++ [d]).map eD).length ((ds ++ [d]).map eD).length (some (-1)) = ds.length := by
    unfold HT.sIx
    dsimp only
    rw [if_pos (by decide), List.length_map, List.length_append, List.length_singleton]
    omega
  rw [e]
  show ((((ds ++ [d]).map eD).drop 0).take (ds.length - 0)) = _
  rw [List.drop_zero, Nat.sub_zero, List.map_append]
  have : ds.length = (ds.map eD).length := by rw [List.length_map]
  rw [this, List.take_left']
  rfl
abbrev backK : List (Key × V) := mergeK [] [(.inr "one", .str "other"), (.inr "other", .str "one"), (.inr "same", .str "same")]
theorem back_val (x : Word) : valV backK (.inr (wordS x)) = some (.str (wordS x.flip)) := by cases x <;> rfl
abbrev manyN (n : Int) : Int := if (if n < 8 then n else 8) > 3 then (if n < 8 then n else 8) else 3
theorem manyN_bd (n : Int) : 0 ≤ manyN n ∧ manyN n ≤ 8 := by
  unfold manyN
  by_cases h : n < 8
  · rw [if_pos h]
    split <;> omega
  · rw [if_neg h]
    split <;> omega
theorem law_body (E : En K mg) (ns : List Int) : Body P w K mg base 10 lwN "law" (defScope (top 106)) fun X G => DB X G (stR lwN.length ([PyData.list (ns.map .int)].map .d)) (defBody (top 106)) (.rt (.bool true) []) := by
  intro f cdv A outer s' H Ex G hr
  show DB _ G _ _ _
  have nd := sc_law.nd
  have sz := sizeLine_eq
  have hmn := manyN_bd (((ns.map PyData.int).length : Int) + 2)
  refine bC (r1 := [.d (.list (ns.map .int)), .u, .u, .u, .u, .u, .u, .u, .u, .u, .u, .u, .u, .u, .u, .u]) (sFor (r1 := [.d (.list (ns.map .int)), .u, .u, .u, .u, .u, .u, .u, .u, .u, .u, .u, .u, .u, .u, .u])
    (iTo (iR1 (i := manyN (((ns.map PyData.int).length : Int) + 2)) E.b_range (aC (dMax E.b_max (aC di (aC (dMin E.b_min (aC di (aC (dAdd (dLen (xs := ns.map .int) E.b_len (.inl rfl) (aC (dv 0) aN)) di) aN))) aN))) aN) ⟨by omega, by omega⟩) (ys := (List.range (manyN (((ns.map PyData.int).length : Int) + 2)).toNat).map fun (i : Nat) => .int (i : Int)) (by unfold rgD; simp)) ?_) (b1 (sRet db))
  refine for_acc (β := Unit) (fun (i : Nat) => .int (i : Int)) (fun _ => [.d (.list (ns.map .int)), .u, .u, .u, .u, .u, .u, .u, .u, .u, .u, .u, .u, .u, .u, .u]) (fun _ => []) 0 _ [] ?_ fun k hk _ _ => ?_
  · rw [flat_nil]; exact Nat.le_refl _
  have hk8 : k < 100 := by have := List.mem_range.mp hk; omega
  obtain ⟨g0, g1, g2, g3, g4, g5, g6, g7, W, ds, d, ds3, other, v, u, hW, hsh, h1, hl1, h2, hl2, hv, hu, c0, c1, c2, c3, c4, c5, c6, c7⟩ := (draw (P := P) (w := w) (base := base) E ns k hk8).ex
  have hinit : cut ((ds ++ [d]).map eD) none (some (-1)) = ds.map eD := cut_init ds d
  have hcat : PyData.tuple (ds.map eD ++ [eD d]) = eDs (ds ++ [d]) := by unfold eDs; rw [List.map_append]; rfl
  have hl0 : ds.length ≤ 3 := by rw [List.length_append] at hl1; omega
  generalize ds ++ [d] = one at *
  obtain ⟨p, hpe, hp⟩ : ∃ p : Int × Int, p = (10 + v, 10 + u) ∧ (0 ≤ p.1 ∧ p.1 ≤ 50) ∧ 0 ≤ p.2 ∧ p.2 ≤ 50 := ⟨_, rfl, by dsimp only; omega, by dsimp only; omega⟩
  have hpu : PyData.tuple [.int (10 + v), .int (10 + u)] = eR p := by rw [hpe]; rfl
  have hS : Few1 (scriptEdges W (one ++ other)) := few_of hW hsh (both_ok h1 h2).1 (by rw [List.length_append]; omega)
  have hS2 : Few1 (scriptEdges W (other ++ one)) := few_of hW hsh (both_ok h2 h1).1 (by rw [List.length_append]; omega)
  obtain ⟨f1, f2, n1, n2⟩ := few1_rims (p := p) hW h1 h2 hS
  obtain ⟨n3, n4⟩ := rims1_len (p := p) h1 h2 n1
  have nr : (rims1 W one other p).length ≤ 900000 := by unfold rims1; rw [List.length_append]; omega
  have rf := rows_few (p := p) h1 h2 hS
  have due := due_eq (p := p) hW h1 h2
  have flp := flip_eq (p := p) hW h1 h2
  have nrow : (cheaperRows W one other p).length ≤ 8200 := by rw [← due]; refine Nat.le_trans (lawJoined_len _) ?_; rw [List.length_map]; exact n2
  refine fS (gNm 1 nd) ?_
  refine bC (r1 := [.d (.list (ns.map .int)), .d (.int (k : Int)), .m true (bL g0), .u, .u, .u, .u, .u, .u, .u, .u, .u, .u, .u, .u, .u]) (sSetNew 2 c0 (hr.mono (by decide)) (aC (dv 0) (aC (dv 1) aN)) nd) ?_
  refine bC (r1 := [.d (.list (ns.map .int)), .d (.int (k : Int)), .m true (bL g1), .d (eW W), .u, .u, .u, .u, .u, .u, .u, .u, .u, .u, .u, .u]) (sSet 3 (r1 := [.d (.list (ns.map .int)), .d (.int (k : Int)), .m true (bL g1), .u, .u, .u, .u, .u, .u, .u, .u, .u, .u, .u, .u, .u]) (dCallB 2 c1 (hr.mono (by decide)) (aC di (aC di aN))) nd) ?_
  refine bC (r1 := [.d (.list (ns.map .int)), .d (.int (k : Int)), .m true (bL g3), .d (eW W), .d (eDs one), .u, .u, .u, .u, .u, .u, .u, .u, .u, .u, .u]) (sSet 4 (r1 := [.d (.list (ns.map .int)), .d (.int (k : Int)), .m true (bL g3), .d (eW W), .u, .u, .u, .u, .u, .u, .u, .u, .u, .u, .u, .u])
    (dTo (dCatT (xs := ds.map eD) (ys := [eD d]) (r1 := [.d (.list (ns.map .int)), .d (.int (k : Int)), .m true (bL g2), .d (eW W), .u, .u, .u, .u, .u, .u, .u, .u, .u, .u, .u, .u]) (by rw [List.length_map]; show ds.length + 1 ≤ _; omega) (dCallB 2 c2 (hr.mono (by decide)) (aC (dv 3) (aC di aN))) (dTup1 (dCallB 2 c3 (hr.mono (by decide)) (aC (dv 3) aN)))) hcat) nd) ?_
  refine bC (r1 := [.d (.list (ns.map .int)), .d (.int (k : Int)), .m true (bL g5), .d (eW W), .d (eDs one), .d (eDs other), .u, .u, .u, .u, .u, .u, .u, .u, .u, .u]) (sSet 5 (r1 := [.d (.list (ns.map .int)), .d (.int (k : Int)), .m true (bL g5), .d (eW W), .d (eDs one), .u, .u, .u, .u, .u, .u, .u, .u, .u, .u, .u])
    (dCallB 2 (r1 := [.d (.list (ns.map .int)), .d (.int (k : Int)), .m true (bL g4), .d (eW W), .d (eDs one), .u, .u, .u, .u, .u, .u, .u, .u, .u, .u, .u]) c5 (hr.mono (by decide)) (aC (r1 := [.d (.list (ns.map .int)), .d (.int (k : Int)), .m true (bL g4), .d (eW W), .d (eDs one), .u, .u, .u, .u, .u, .u, .u, .u, .u, .u, .u]) (dLst (r1 := [.d (.list (ns.map .int)), .d (.int (k : Int)), .m true (bL g4), .d (eW W), .d (eDs one), .u, .u, .u, .u, .u, .u, .u, .u, .u, .u, .u]) (by show 4 ≤ sizeLine; omega) (aC dTup0 (aC (dTo (dSlT (xs := one.map eD) (dv 4) oN (oS (dNeg di))) (congrArg PyData.tuple hinit)) (aC (dTo (dRev (xs := one.map eD) (dv 4)) (by rw [← List.map_reverse]; rfl)) (aC (r1 := [.d (.list (ns.map .int)), .d (.int (k : Int)), .m true (bL g4), .d (eW W), .d (eDs one), .u, .u, .u, .u, .u, .u, .u, .u, .u, .u, .u]) (dCallB 2 c4 (hr.mono (by decide)) (aC (dv 3) (aC di aN))) aN))))) aN)) nd) ?_
  refine bC (r1 := [.d (.list (ns.map .int)), .d (.int (k : Int)), .m true (bL g7), .d (eW W), .d (eDs one), .d (eDs other), .d (eR p), .d (.list ((lawSE W (one ++ other)).map eR)), .u, .u, .u, .u, .u, .u, .u, .u]) (sPar 6 7 (r1 := [.d (.list (ns.map .int)), .d (.int (k : Int)), .m true (bL g7), .d (eW W), .d (eDs one), .d (eDs other), .u, .u, .u, .u, .u, .u, .u, .u, .u, .u])
    (aC (r1 := [.d (.list (ns.map .int)), .d (.int (k : Int)), .m true (bL g7), .d (eW W), .d (eDs one), .d (eDs other), .u, .u, .u, .u, .u, .u, .u, .u, .u, .u]) (dTo (dTup2 (aC (r1 := [.d (.list (ns.map .int)), .d (.int (k : Int)), .m true (bL g6), .d (eW W), .d (eDs one), .d (eDs other), .u, .u, .u, .u, .u, .u, .u, .u, .u, .u]) (dAdd di (dCallB 2 c6 (hr.mono (by decide)) (aC di aN))) (aC (r1 := [.d (.list (ns.map .int)), .d (.int (k : Int)), .m true (bL g7), .d (eW W), .d (eDs one), .d (eDs other), .u, .u, .u, .u, .u, .u, .u, .u, .u, .u]) (dAdd di (dCallB 2 c7 (hr.mono (by decide)) (aC di aN))) aN))) hpu)
      (aC (dCall (c_law_script_edges E hW (both_ok h1 h2).1 (both_ok h1 h2).2) (hr.mono (by decide)) (aC (dv 3) (aC (dTo (dCatT (xs := one.map eD) (ys := other.map eD) (by rw [List.length_map, List.length_map]; omega) (dv 4) (dv 5)) (by unfold eDs; rw [List.map_append])) aN))) aN)) nd) ?_
  refine bC (r1 := [.d (.list (ns.map .int)), .d (.int (k : Int)), .m true (bL g7), .d (eW W), .d (eDs one), .d (eDs other), .d (eR p), .d (.list ((rims1 W one other p).map eR)), .u, .u, .u, .u, .u, .u, .u, .u]) (sFor (r1 := [.d (.list (ns.map .int)), .d (.int (k : Int)), .m true (bL g7), .d (eW W), .d (eDs one), .d (eDs other), .d (eR p), .d (.list ((lawSE W (one ++ other)).map eR)), .u, .u, .u, .u, .u, .u, .u, .u]) (iL (dCall (c_law_cells E (fun r hr => (lawSE_ok hW h1 h2 r hr).1) (by omega) f1) (hr.mono (by decide)) (aC (dv 7) aN)))
    (for_acc (eRow eR) (fun (acc : List Rate) => [.d (.list (ns.map .int)), .d (.int (k : Int)), .m true (bL g7), .d (eW W), .d (eDs one), .d (eDs other), .d (eR p), .d (.list ((acc).map eR)), .u, .u, .u, .u, .u, .u, .u, .u]) (zeroAt W one other p) 20000 _ _ n4 fun c hc acc hacc => ?_)) ?_
  · obtain ⟨sl, rg⟩ := mcell_ok (lawSE_ok hW h1 h2) hc
    have hz := zero_len (left W one p c.2) (left W other p c.2)
    refine fS (gTu (gC (gNm 8 nd) (gC (gNm 9 nd) gN))) ?_
    refine bC (r1 := [.d (.list (ns.map .int)), .d (.int (k : Int)), .m true (bL g7), .d (eW W), .d (eDs one), .d (eDs other), .d (eR p), .d (.list ((acc).map eR)), .d (eSpan c.1), .d (eR c.2), .d (eStandL (led W (purse0 p) one c.2).1), .d (eStandL (led W (purse0 p) other c.2).1), .u, .u, .u, .u]) (sPar 10 11 (aC (dI (xs := [eStandL (led W (purse0 p) one c.2).1, .list ((led W (purse0 p) one c.2).2.1.map .int), eON (led W (purse0 p) one c.2).2.2]) (dCall (c_law_led E h1.d (by have := h1.n; omega) (lj0 hp) sl rg) (hr.mono (by decide)) (aC (dv 3) (aC (dTo (dCatT (xs := [.int p.1, .int p.2]) (ys := [.list []]) (by show 3 ≤ sizeLine; omega) (dv 6) (dTup1 dLst0)) (purse_eq p)) (aC (dv 4) (aC (dv 9) aN))))) di) (aC (dI (xs := [eStandL (led W (purse0 p) other c.2).1, .list ((led W (purse0 p) other c.2).2.1.map .int), eON (led W (purse0 p) other c.2).2.2]) (dCall (c_law_led E h2.d (by have := h2.n; omega) (lj0 hp) sl rg) (hr.mono (by decide)) (aC (dv 3) (aC (dTo (dCatT (xs := [.int p.1, .int p.2]) (ys := [.list []]) (by show 3 ≤ sizeLine; omega) (dv 6) (dTup1 dLst0)) (purse_eq p)) (aC (dv 5) (aC (dv 9) aN))))) di) aN)) nd) ?_
    refine bC (r1 := [.d (.list (ns.map .int)), .d (.int (k : Int)), .m true (bL g7), .d (eW W), .d (eDs one), .d (eDs other), .d (eR p), .d (.list ((acc ++ zeroAt W one other p c).map eR)), .d (eSpan c.1), .d (eR c.2), .d (eStandL (led W (purse0 p) one c.2).1), .d (eStandL (led W (purse0 p) other c.2).1), .u, .u, .u, .u]) (sSet 7 (r1 := [.d (.list (ns.map .int)), .d (.int (k : Int)), .m true (bL g7), .d (eW W), .d (eDs one), .d (eDs other), .d (eR p), .d (.list ((acc).map eR)), .d (eSpan c.1), .d (eR c.2), .d (eStandL (led W (purse0 p) one c.2).1), .d (eStandL (led W (purse0 p) other c.2).1), .u, .u, .u, .u]) (dTo (dCatL (xs := acc.map eR) (ys := (zeroAt W one other p c).map eR) (by rw [List.length_map, List.length_map]; omega) (dv 7) (dCall (c_law_zero E (left_bd h1 rg hp).1 (left_bd h2 rg hp).1) (hr.mono (by decide)) (aC (dv 10) (aC (dv 11) aN)))) (map_app _ _)) nd) (bW [8, 9, 10, 11])
  refine bC (r1 := [.d (.list (ns.map .int)), .d (.int (k : Int)), .m true (bL g7), .d (eW W), .d (eDs one), .d (eDs other), .d (eR p), .d (.list ((rims1 W one other p).map eR)), .u, .u, .u, .u, .m true [], .u, .u, .u]) (sNewL 12 (Nat.zero_le _) aN nd) ?_
  refine bC (r1 := [.d (.list (ns.map .int)), .d (.int (k : Int)), .m true (bL g7), .d (eW W), .d (eDs one), .d (eDs other), .d (eR p), .d (.list ((rims1 W one other p).map eR)), .u, .u, .u, .u, .m true (((cellsOf mediant (rims1 W one other p)).map (rowAt W one other p)).map eWRow), .u, .u, .u]) (sFor (r1 := [.d (.list (ns.map .int)), .d (.int (k : Int)), .m true (bL g7), .d (eW W), .d (eDs one), .d (eDs other), .d (eR p), .d (.list ((rims1 W one other p).map eR)), .u, .u, .u, .u, .m true ((([] : List WRow)).map eWRow), .u, .u, .u]) (iL (dCall (c_law_cells E (fun r hr => (rims1_ok hW h1 h2 r hr).1) nr f2) (hr.mono (by decide)) (aC (dv 7) aN))) ?_) ?_
  · rw [← flat_one (rowAt W one other p), ← List.nil_append ((cellsOf mediant (rims1 W one other p)).flatMap fun c => [rowAt W one other p c])]
    refine for_acc (eRow eR) (fun (acc : List WRow) => [.d (.list (ns.map .int)), .d (.int (k : Int)), .m true (bL g7), .d (eW W), .d (eDs one), .d (eDs other), .d (eR p), .d (.list ((rims1 W one other p).map eR)), .u, .u, .u, .u, .m true ((acc).map eWRow), .u, .u, .u]) (fun c => [rowAt W one other p c]) 8200 _ [] (by rw [flat_one, List.length_map]; exact Nat.le_trans (by simp) n2) fun c hc acc hacc => ?_
    obtain ⟨sl, rg⟩ := mcell_ok (rims1_ok hW h1 h2) hc
    have hacc : acc.length + 1 ≤ 8200 := hacc
    refine fS (gTu (gC (gNm 8 nd) (gC (gNm 9 nd) gN))) ?_
    refine bC (r1 := [.d (.list (ns.map .int)), .d (.int (k : Int)), .m true (bL g7), .d (eW W), .d (eDs one), .d (eDs other), .d (eR p), .d (.list ((rims1 W one other p).map eR)), .d (eSpan c.1), .d (eR c.2), .d (eStandL (led W (purse0 p) one c.2).1), .d (eStandL (led W (purse0 p) other c.2).1), .m true ((acc).map eWRow), .u, .u, .u]) (sPar 10 11 (aC (dI (xs := [eStandL (led W (purse0 p) one c.2).1, .list ((led W (purse0 p) one c.2).2.1.map .int), eON (led W (purse0 p) one c.2).2.2]) (dCall (c_law_led E h1.d (by have := h1.n; omega) (lj0 hp) sl rg) (hr.mono (by decide)) (aC (dv 3) (aC (dTo (dCatT (xs := [.int p.1, .int p.2]) (ys := [.list []]) (by show 3 ≤ sizeLine; omega) (dv 6) (dTup1 dLst0)) (purse_eq p)) (aC (dv 4) (aC (dv 9) aN))))) di) (aC (dI (xs := [eStandL (led W (purse0 p) other c.2).1, .list ((led W (purse0 p) other c.2).2.1.map .int), eON (led W (purse0 p) other c.2).2.2]) (dCall (c_law_led E h2.d (by have := h2.n; omega) (lj0 hp) sl rg) (hr.mono (by decide)) (aC (dv 3) (aC (dTo (dCatT (xs := [.int p.1, .int p.2]) (ys := [.list []]) (by show 3 ≤ sizeLine; omega) (dv 6) (dTup1 dLst0)) (purse_eq p)) (aC (dv 5) (aC (dv 9) aN))))) di) aN)) nd) ?_
    refine bC (r1 := [.d (.list (ns.map .int)), .d (.int (k : Int)), .m true (bL g7), .d (eW W), .d (eDs one), .d (eDs other), .d (eR p), .d (.list ((rims1 W one other p).map eR)), .d (eSpan c.1), .d (eR c.2), .d (eStandL (led W (purse0 p) one c.2).1), .d (eStandL (led W (purse0 p) other c.2).1), .m true ((acc ++ [rowAt W one other p c]).map eWRow), .u, .u, .u]) ?_ (bW [8, 9, 10, 11])
    rw [List.map_append]
    exact sApp 12 (x := eWRow (rowAt W one other p c)) (dTup2 (aC (dv 8) (aC (dCall (c_law_word E sl) (hr.mono (by decide)) (aC (dv 10) (aC (dv 11) (aC (dv 9) aN)))) aN))) (by rw [List.length_map]; omega)
  refine bFz (i := 12) rfl ?_
  refine bC (r1 := [.d (.list (ns.map .int)), .d (.int (k : Int)), .m true (bL g7), .d (eW W), .d (eDs one), .d (eDs other), .d (eR p), .d (.list ((rims1 W one other p).map eR)), .u, .u, .u, .u, .d (.list (((cellsOf mediant (rims1 W one other p)).map (rowAt W one other p)).map eWRow)), .d (.list ((cheaperRows W one other p).map eWRow)), .u, .u]) (sSet 13 (r1 := [.d (.list (ns.map .int)), .d (.int (k : Int)), .m true (bL g7), .d (eW W), .d (eDs one), .d (eDs other), .d (eR p), .d (.list ((rims1 W one other p).map eR)), .u, .u, .u, .u, .d (.list (((cellsOf mediant (rims1 W one other p)).map (rowAt W one other p)).map eWRow)), .u, .u, .u]) (dTo (dCall (c_law_joined E (rows := (cellsOf mediant (rims1 W one other p)).map (rowAt W one other p)) (by rw [List.length_map]; omega)) (hr.mono (by decide)) (aC (dv 12) aN)) (by rw [due])) nd) ?_
  refine bIf (k := false) (tNe hr.units (sh_WRows _) (sh_WRows _) (ne_refl eWRow eqv_WRow _) (dCall (c_cheaper E hW h1 h2 ⟨hp.1.1, hp.2.1⟩ hS) hr (aC (dv 3) (aC (dv 4) (aC (dv 5) (aC (dv 6) aN))))) (dr (dv 13))) (fun h => absurd h (by decide)) fun _ => br0 ?_
  have hsort : ∀ r ∈ (cheaperRows W one other p).tail.map fun row => row.1.1, Rt r := fun r hr => by obtain ⟨row, hrow, rfl⟩ := List.mem_map.mp hr; exact rf.1 row (List.mem_of_mem_tail hrow)
  refine bIf (k := false) (tNe hr.units (sh_Rs _) (sh_Rs _) (ne_refl eR eqv_Rs (turns (cheaperRows W one other p))) (dCall (c_turns E hW h1 h2 ⟨hp.1.1, hp.2.1⟩ hS (by omega)) hr (aC (dv 3) (aC (dv 4) (aC (dv 5) (aC (dv 6) aN)))))
    (dr (dCall (c_law_sorted E hsort (by rw [List.length_map, List.length_tail]; omega) rf.2) (hr.mono (by decide)) (aC (r1 := [.d (.list (ns.map .int)), .d (.int (k : Int)), .m true (bL g7), .d (eW W), .d (eDs one), .d (eDs other), .d (eR p), .d (.list ((rims1 W one other p).map eR)), .u, .u, .u, .u, .d (.list (((cellsOf mediant (rims1 W one other p)).map (rowAt W one other p)).map eWRow)), .d (.list ((cheaperRows W one other p).map eWRow)), .u, .u]) (dLc (own := [("_law_span", 8), ("_law_word_here", 15)]) (iTo (iL (dSlL (dv 13) (oS di) oN)) (ys := (cheaperRows W one other p).tail.map eWRow) ?_) (noM rfl) (comp_map eWRow eR (fun row => row.1.1) _ fun row hrow => cTake (fun _ _ _ _ _ _ => gTu (gC (gNm 8 nd) (gC (gNm 15 nd) gN))) (by decide) (fun _ _ _ _ _ _ => dI (xs := [eR row.1.1, .bool row.1.2.1, eR row.1.2.2.1, .bool row.1.2.2.2]) (dv 8) di)) (by rw [List.length_map, List.length_tail]; omega) nd (by rfl)) aN)))) (fun h => absurd h (by decide)) fun _ => br0 ?_
  · cases cheaperRows W one other p with
    | nil => rfl
    | cons a t => exact cut_drop ((a :: t).map eWRow) 1 (by simp)
  refine bC (r1 := [.d (.list (ns.map .int)), .d (.int (k : Int)), .m true (bL g7), .d (eW W), .d (eDs one), .d (eDs other), .d (eR p), .d (.list ((rims1 W one other p).map eR)), .u, .u, .u, .u, .d (.list (((cellsOf mediant (rims1 W one other p)).map (rowAt W one other p)).map eWRow)), .d (.list ((cheaperRows W one other p).map eWRow)), .t backK, .u]) (sDict3 14 nd) ?_
  refine bIf (k := false) (tNe (r2 := [.d (.list (ns.map .int)), .d (.int (k : Int)), .m true (bL g7), .d (eW W), .d (eDs one), .d (eDs other), .d (eR p), .d (.list ((rims1 W one other p).map eR)), .u, .u, .u, .u, .d (.list (((cellsOf mediant (rims1 W one other p)).map (rowAt W one other p)).map eWRow)), .d (.list ((cheaperRows W one other p).map eWRow)), .t backK, .u]) hr.units (sh_WRows _) (sh_WRows _) (ne_refl eWRow eqv_WRow ((cheaperRows W one other p).map fun r => (r.1, r.2.flip))) (dTo (dCall (c_cheaper E hW h2 h1 ⟨hp.1.1, hp.2.1⟩ hS2) hr (aC (dv 3) (aC (dv 5) (aC (dv 4) (aC (dv 6) aN))))) (by rw [flp]))
    (dr (dLc (own := [("_law_span", 8), ("_law_word_here", 15)]) (iL (dv 13)) (noM rfl) (comp_map eWRow eWRow (fun r => (r.1, r.2.flip)) _ fun row hrow => cTake (fun _ _ _ _ _ _ => gTu (gC (gNm 8 nd) (gC (gNm 15 nd) gN))) (by decide) (fun _ _ _ _ _ _ => dTup2 (aC (dv 8) (aC (dGetT 14 (kvs := backK) (k := wordS row.2) (t := wordS row.2.flip) (Nat.lt_of_le_of_lt (Nat.add_le_add_left (by decide : 1 ≤ 64) _) hr.units) (back_val row.2) (dv 15)) aN)))) (by rw [List.length_map]; omega) nd (by rfl)))) (fun h => absurd h (by decide)) fun _ => br0 (bFg bN (.keep (.drop (.drop (.drop (.drop (.drop (.drop (.drop (.drop (.drop (.drop (.drop (.drop (.drop (.drop (.drop .nil)))))))))))))))))
end Kx
end Sec_LN
section Sec_HeadT
set_option maxRecDepth 100000
set_option maxHeartbeats 0
namespace KH
open PySem PySem.Spec PyProof.Rows L2 DL
def mkD (i : Nat) (n : Str) : He.DefD := ⟨(n, none), n, n, defArgs (Kx.top i), defBody (Kx.top i), defScope (Kx.top i), [], []⟩

def fn0 : List He.DefD := [mkD 5 "lowest", mkD 6 "place_of", mkD 7 "is_less", mkD 8 "middle", mkD 9 "rounded", mkD 10 "edges", mkD 11 "in_order", mkD 31 "is_number", mkD 32 "is_from", mkD 33 "is_tuple_of", mkD 34 "is_word", mkD 35 "is_rounding", mkD 36 "is_rule", mkD 37 "is_office", mkD 38 "is_shop", mkD 39 "is_world", mkD 40 "is_amount", mkD 41 "does_this", mkD 42 "is_exchange", mkD 43 "is_purchase"]
def fn1 : List He.DefD := [mkD 44 "is_deed", mkD 45 "are_deeds", mkD 46 "is_script_of", mkD 47 "need_world", mkD 48 "need_script", mkD 49 "need_purse", mkD 50 "gives", mkD 52 "tag_of", mkD 53 "change_of", mkD 54 "number_told", mkD 55 "with_thing", mkD 56 "effect", mkD 57 "need_of", mkD 58 "thing_by", mkD 59 "behind", mkD 60 "led_by", mkD 64 "within", mkD 65 "rule_edges", mkD 66 "tag_edges", mkD 67 "change_edges"]
def fn2 : List He.DefD := [mkD 68 "deed_edges", mkD 69 "script_edges", mkD 70 "cells_of", mkD 71 "joined", mkD 72 "meet", mkD 73 "costs", mkD 74 "left_rows", mkD 75 "word_for", mkD 76 "parted", mkD 77 "cheaper_rows", mkD 78 "need_both", mkD 79 "cheaper", mkD 80 "turns", mkD 82 "_law_bag", mkD 83 "_law_take", mkD 84 "_law_of", mkD 85 "_law_rounding", mkD 86 "_law_rule", mkD 87 "_law_fine", mkD 88 "_law_world"]
def fn3 : List He.DefD := [mkD 89 "_law_deed", mkD 90 "_law_script", mkD 91 "_law_lowest", mkD 92 "_law_rounded", mkD 93 "_law_gives", mkD 94 "_law_tag", mkD 95 "_law_number", mkD 96 "_law_done", mkD 97 "_law_led", mkD 98 "_law_sorted", mkD 99 "_law_edges", mkD 100 "_law_deed_edges", mkD 101 "_law_cells", mkD 102 "_law_joined", mkD 103 "_law_script_edges", mkD 104 "_law_word", mkD 105 "_law_zero", mkD 106 "law"]
def fn : List He.DefD := fn0 ++ (fn1 ++ (fn2 ++ (fn3)))
def fa0 : List He.Fa := [.glo "lowest", .glo "place_of", .glo "is_less", .glo "middle", .glo "rounded", .glo "edges", .glo "in_order", .glo "is_number", .glo "is_from", .glo "is_tuple_of", .glo "is_word", .glo "is_rounding", .glo "is_rule", .glo "is_office", .glo "is_shop", .glo "is_world", .glo "is_amount", .glo "does_this", .glo "is_exchange", .glo "is_purchase"]
def fa1 : List He.Fa := [.glo "is_deed", .glo "are_deeds", .glo "is_script_of", .glo "need_world", .glo "need_script", .glo "need_purse", .glo "gives", .glo "tag_of", .glo "change_of", .glo "number_told", .glo "with_thing", .glo "effect", .glo "need_of", .glo "thing_by", .glo "behind", .glo "led_by", .glo "within", .glo "rule_edges", .glo "tag_edges", .glo "change_edges"]
def fa2 : List He.Fa := [.glo "deed_edges", .glo "script_edges", .glo "cells_of", .glo "joined", .glo "meet", .glo "costs", .glo "left_rows", .glo "word_for", .glo "parted", .glo "cheaper_rows", .glo "need_both", .glo "cheaper", .glo "turns", .glo "_law_bag", .glo "_law_take", .glo "_law_of", .glo "_law_rounding", .glo "_law_rule", .glo "_law_fine", .glo "_law_world"]
def fa3 : List He.Fa := [.glo "_law_deed", .glo "_law_script", .glo "_law_lowest", .glo "_law_rounded", .glo "_law_gives", .glo "_law_tag", .glo "_law_number", .glo "_law_done", .glo "_law_led", .glo "_law_sorted", .glo "_law_edges", .glo "_law_deed_edges", .glo "_law_cells", .glo "_law_joined", .glo "_law_script_edges", .glo "_law_word", .glo "_law_zero", .glo "law", .glo "RULE_MODES", .glo "LOW"]
def fa4 : List He.Fa := [.glo "HIGH", .str "DOWN" "down", .str "UP" "up", .str "NEAR" "near", .str "INTO" "into", .str "BACK" "back", .str "BUY" "buy", .str "OVER" "over", .str "RETURN" "return", .str "HOME" "home", .str "FAR" "far", .int "FINE" 1000000000000000, .int "MOST" 12, .int "MOST_STEP" 10, .int "MOST_CHARGE" 30, .int "MOST_CUT" 50, .int "MOST_DEEDS" 8, .free "abs", .free "list", .free "range"]
def fa5 : List He.Fa := [.free "sorted", .free "set", .free "isinstance", .free "int", .free "bool", .free "tuple", .free "str", .free "len", .free "all", .free "max", .free "min", .free "enumerate", .free "zip"]
def fa : List He.Fa := fa0 ++ (fa1 ++ (fa2 ++ (fa3 ++ (fa4 ++ (fa5)))))
def names0 : List PySem.Str := ["DOWN", "UP", "NEAR", "FINE", "lowest", "place_of", "is_less", "middle", "rounded", "edges", "in_order", "RateError", "InvalidWorld", "InvalidScript", "InvalidPurse", "RULE_MODES", "INTO", "BACK", "BUY", "OVER"]
def names1 : List PySem.Str := ["RETURN", "HOME", "FAR", "MOST", "MOST_STEP", "MOST_CHARGE", "MOST_CUT", "MOST_DEEDS", "is_number", "is_from", "is_tuple_of", "is_word", "is_rounding", "is_rule", "is_office", "is_shop", "is_world", "is_amount", "does_this", "is_exchange"]
def names2 : List PySem.Str := ["is_purchase", "is_deed", "are_deeds", "is_script_of", "need_world", "need_script", "need_purse", "gives", "tag_of", "change_of", "number_told", "with_thing", "effect", "need_of", "thing_by", "behind", "led_by", "LOW", "HIGH", "within"]
def names3 : List PySem.Str := ["rule_edges", "tag_edges", "change_edges", "deed_edges", "script_edges", "cells_of", "joined", "meet", "costs", "left_rows", "word_for", "parted", "cheaper_rows", "need_both", "cheaper", "turns", "_law_bag", "_law_take", "_law_of", "_law_rounding"]
def names4 : List PySem.Str := ["_law_rule", "_law_fine", "_law_world", "_law_deed", "_law_script", "_law_lowest", "_law_rounded", "_law_gives", "_law_tag", "_law_number", "_law_done", "_law_led", "_law_sorted", "_law_edges", "_law_deed_edges", "_law_cells", "_law_joined", "_law_script_edges", "_law_word", "_law_zero"]
def names : List PySem.Str := names0 ++ (names1 ++ (names2 ++ (names3 ++ (names4))))
def plB (K : PySem.W.Frag) (x : Str) : Bool := match K.lookup (He.ga K x) with
  | some o => o.dict.isNone
  | none => false
def tpB (K : PySem.W.Frag) (x : Str) (vs : List He.Dv) : Bool := He.tupB K x vs && plB K x
def ex (K : PySem.W.Frag) : Bool := tpB K "RULE_MODES" [.str "down", .str "near", .str "nine", .str "up"] && (tpB K "LOW" [.int 1, .int 4] && tpB K "HIGH" [.int 4, .int 1])
abbrev R : PySem.W.OpenRow := PySem.W.OpenLaw.row PySem.Challenge.rw_anyrate_k06_whole_which_script_is_cheape
abbrev hk : PySem.W.Hook := He.hookX 2 fa fn [] [] ex
def ob (s : PySem.W.SharedT) : He.AlX := He.obsX 2 fa fn [] [] ex (HandSHeadRun.getT s)
theorem ob_eq (s : PySem.W.SharedT) : ob s = hk.obs s.abs := He.obsX_eq (HandSHeadRun.getT_eq s)
theorem run (w : World) : HandSHeadRun.RunEq R (PySem.W.view R.prog [106]) hk ob 6000 names w := by
  intro os
  kernel_rfl
end KH
end Sec_HeadT
set_option maxRecDepth 100000
set_option maxHeartbeats 0
/-! The head's facts; the claim. -/
namespace KH
open PySem PySem.Spec PyProof.Rows L2 DL Kx
section
variable {K : PySem.W.Frag} {h : Heap} {mg : Str → Option Value}
theorem fdef (X : K.In h) (G : h.Ns mainGlobals mg) (c : He.SaysD fa fn K) (i j k : Nat) (n : Str) (h1 : fn[i]? = some (mkD k n)) (h2 : fa[j]? = some (.glo n)) : ∃ f fd, FnP K k n f fd ∧ mg n = some (.ref f) := by
  obtain ⟨fd, F⟩ := c.def_ i h1
  exact ⟨_, fd, F, He.glo_ok X G (c.fact j h2)⟩
theorem fstr (X : K.In h) (G : h.Ns mainGlobals mg) (c : He.SaysD fa fn K) (j : Nat) (n z : Str) (h2 : fa[j]? = some (.str n z)) : Cst K mg n (.str z) := by
  obtain ⟨t, e⟩ := He.str_ok X G (c.fact j h2)
  exact ⟨.str z, _, e, ⟨t, rfl⟩, fun H => .str z⟩
theorem fint (X : K.In h) (G : h.Ns mainGlobals mg) (c : He.SaysD fa fn K) (j : Nat) (n : Str) (i : Int) (h2 : fa[j]? = some (.int n i)) : Cst K mg n (.int i) := by
  obtain ⟨t, e⟩ := He.int_ok X G (c.fact j h2)
  exact ⟨.int i, _, e, ⟨t, rfl⟩, fun H => .int i⟩
theorem ftup (X : K.In h) (G : h.Ns mainGlobals mg) (c : He.SaysD fa fn K) (j : Nat) (n : Str) (vs : List He.Dv) (ds : List PyData) (h2 : fa[j]? = some (.glo n)) (m : tpB K n vs = true) (hd : ∀ H, DqAll K H (vs.map (He.Dv.v K)) ds) : Cst K mg n (.tuple ds) := by
  obtain ⟨m1, m2⟩ := Bool.and_eq_true_iff.mp m
  refine ⟨.ref (He.ga K n), _, He.glo_ok X G (c.fact j h2), rfl, fun H => .tup ?_ (hd H)⟩
  have s := He.tupB_ok m1 (fun _ => none)
  rcases s with s | ⟨o, its, k, q1, q2, q3, q4, q5⟩
  · rcases s with s | ⟨o, s⟩
    · cases s
    · cases s
  · refine .inr ⟨o, its, k, q1, q2, ?_, q3, q4, q5⟩
    unfold plB at m2
    rw [q1] at m2
    exact Option.isNone_iff_eq_none.mp m2
theorem en_of (X : K.In h) (G : h.Ns mainGlobals mg) (c : He.SaysD fa fn K) (m : ex K = true) : En K mg where
  f_lowest := fdef X G c 0 0 5 "lowest" rfl rfl
  f_place_of := fdef X G c 1 1 6 "place_of" rfl rfl
  f_is_less := fdef X G c 2 2 7 "is_less" rfl rfl
  f_middle := fdef X G c 3 3 8 "middle" rfl rfl
  f_rounded := fdef X G c 4 4 9 "rounded" rfl rfl
  f_edges := fdef X G c 5 5 10 "edges" rfl rfl
  f_in_order := fdef X G c 6 6 11 "in_order" rfl rfl
  f_is_number := fdef X G c 7 7 31 "is_number" rfl rfl
  f_is_from := fdef X G c 8 8 32 "is_from" rfl rfl
  f_is_tuple_of := fdef X G c 9 9 33 "is_tuple_of" rfl rfl
  f_is_word := fdef X G c 10 10 34 "is_word" rfl rfl
  f_is_rounding := fdef X G c 11 11 35 "is_rounding" rfl rfl
  f_is_rule := fdef X G c 12 12 36 "is_rule" rfl rfl
  f_is_office := fdef X G c 13 13 37 "is_office" rfl rfl
  f_is_shop := fdef X G c 14 14 38 "is_shop" rfl rfl
  f_is_world := fdef X G c 15 15 39 "is_world" rfl rfl
  f_is_amount := fdef X G c 16 16 40 "is_amount" rfl rfl
  f_does_this := fdef X G c 17 17 41 "does_this" rfl rfl
  f_is_exchange := fdef X G c 18 18 42 "is_exchange" rfl rfl
  f_is_purchase := fdef X G c 19 19 43 "is_purchase" rfl rfl
  f_is_deed := fdef X G c 20 20 44 "is_deed" rfl rfl
  f_are_deeds := fdef X G c 21 21 45 "are_deeds" rfl rfl
  f_is_script_of := fdef X G c 22 22 46 "is_script_of" rfl rfl
  f_need_world := fdef X G c 23 23 47 "need_world" rfl rfl
  f_need_script := fdef X G c 24 24 48 "need_script" rfl rfl
  f_need_purse := fdef X G c 25 25 49 "need_purse" rfl rfl
  f_gives := fdef X G c 26 26 50 "gives" rfl rfl
  f_tag_of := fdef X G c 27 27 52 "tag_of" rfl rfl
  f_change_of := fdef X G c 28 28 53 "change_of" rfl rfl
  f_number_told := fdef X G c 29 29 54 "number_told" rfl rfl
  f_with_thing := fdef X G c 30 30 55 "with_thing" rfl rfl
  f_effect := fdef X G c 31 31 56 "effect" rfl rfl
  f_need_of := fdef X G c 32 32 57 "need_of" rfl rfl
  f_thing_by := fdef X G c 33 33 58 "thing_by" rfl rfl
  f_behind := fdef X G c 34 34 59 "behind" rfl rfl
  f_led_by := fdef X G c 35 35 60 "led_by" rfl rfl
  f_within := fdef X G c 36 36 64 "within" rfl rfl
  f_rule_edges := fdef X G c 37 37 65 "rule_edges" rfl rfl
  f_tag_edges := fdef X G c 38 38 66 "tag_edges" rfl rfl
  f_change_edges := fdef X G c 39 39 67 "change_edges" rfl rfl
  f_deed_edges := fdef X G c 40 40 68 "deed_edges" rfl rfl
  f_script_edges := fdef X G c 41 41 69 "script_edges" rfl rfl
  f_cells_of := fdef X G c 42 42 70 "cells_of" rfl rfl
  f_joined := fdef X G c 43 43 71 "joined" rfl rfl
  f_meet := fdef X G c 44 44 72 "meet" rfl rfl
  f_costs := fdef X G c 45 45 73 "costs" rfl rfl
  f_left_rows := fdef X G c 46 46 74 "left_rows" rfl rfl
  f_word_for := fdef X G c 47 47 75 "word_for" rfl rfl
  f_parted := fdef X G c 48 48 76 "parted" rfl rfl
  f_cheaper_rows := fdef X G c 49 49 77 "cheaper_rows" rfl rfl
  f_need_both := fdef X G c 50 50 78 "need_both" rfl rfl
  f_cheaper := fdef X G c 51 51 79 "cheaper" rfl rfl
  f_turns := fdef X G c 52 52 80 "turns" rfl rfl
  f__law_bag := fdef X G c 53 53 82 "_law_bag" rfl rfl
  f__law_take := fdef X G c 54 54 83 "_law_take" rfl rfl
  f__law_of := fdef X G c 55 55 84 "_law_of" rfl rfl
  f__law_rounding := fdef X G c 56 56 85 "_law_rounding" rfl rfl
  f__law_rule := fdef X G c 57 57 86 "_law_rule" rfl rfl
  f__law_fine := fdef X G c 58 58 87 "_law_fine" rfl rfl
  f__law_world := fdef X G c 59 59 88 "_law_world" rfl rfl
  f__law_deed := fdef X G c 60 60 89 "_law_deed" rfl rfl
  f__law_script := fdef X G c 61 61 90 "_law_script" rfl rfl
  f__law_lowest := fdef X G c 62 62 91 "_law_lowest" rfl rfl
  f__law_rounded := fdef X G c 63 63 92 "_law_rounded" rfl rfl
  f__law_gives := fdef X G c 64 64 93 "_law_gives" rfl rfl
  f__law_tag := fdef X G c 65 65 94 "_law_tag" rfl rfl
  f__law_number := fdef X G c 66 66 95 "_law_number" rfl rfl
  f__law_done := fdef X G c 67 67 96 "_law_done" rfl rfl
  f__law_led := fdef X G c 68 68 97 "_law_led" rfl rfl
  f__law_sorted := fdef X G c 69 69 98 "_law_sorted" rfl rfl
  f__law_edges := fdef X G c 70 70 99 "_law_edges" rfl rfl
  f__law_deed_edges := fdef X G c 71 71 100 "_law_deed_edges" rfl rfl
  f__law_cells := fdef X G c 72 72 101 "_law_cells" rfl rfl
  f__law_joined := fdef X G c 73 73 102 "_law_joined" rfl rfl
  f__law_script_edges := fdef X G c 74 74 103 "_law_script_edges" rfl rfl
  f__law_word := fdef X G c 75 75 104 "_law_word" rfl rfl
  f__law_zero := fdef X G c 76 76 105 "_law_zero" rfl rfl
  f_law := fdef X G c 77 77 106 "law" rfl rfl
  b_abs := He.free_ok X G (c.fact 97 (f := .free "abs") rfl)
  b_list := He.free_ok X G (c.fact 98 (f := .free "list") rfl)
  b_range := He.free_ok X G (c.fact 99 (f := .free "range") rfl)
  b_sorted := He.free_ok X G (c.fact 100 (f := .free "sorted") rfl)
  b_set := He.free_ok X G (c.fact 101 (f := .free "set") rfl)
  b_isinstance := He.free_ok X G (c.fact 102 (f := .free "isinstance") rfl)
  b_int := He.free_ok X G (c.fact 103 (f := .free "int") rfl)
  b_bool := He.free_ok X G (c.fact 104 (f := .free "bool") rfl)
  b_tuple := He.free_ok X G (c.fact 105 (f := .free "tuple") rfl)
  b_str := He.free_ok X G (c.fact 106 (f := .free "str") rfl)
  b_len := He.free_ok X G (c.fact 107 (f := .free "len") rfl)
  b_all := He.free_ok X G (c.fact 108 (f := .free "all") rfl)
  b_max := He.free_ok X G (c.fact 109 (f := .free "max") rfl)
  b_min := He.free_ok X G (c.fact 110 (f := .free "min") rfl)
  b_enumerate := He.free_ok X G (c.fact 111 (f := .free "enumerate") rfl)
  b_zip := He.free_ok X G (c.fact 112 (f := .free "zip") rfl)
  s_DOWN := fstr X G c 81 "DOWN" "down" rfl
  s_UP := fstr X G c 82 "UP" "up" rfl
  s_NEAR := fstr X G c 83 "NEAR" "near" rfl
  s_INTO := fstr X G c 84 "INTO" "into" rfl
  s_BACK := fstr X G c 85 "BACK" "back" rfl
  s_BUY := fstr X G c 86 "BUY" "buy" rfl
  s_OVER := fstr X G c 87 "OVER" "over" rfl
  s_RETURN := fstr X G c 88 "RETURN" "return" rfl
  s_HOME := fstr X G c 89 "HOME" "home" rfl
  s_FAR := fstr X G c 90 "FAR" "far" rfl
  i_FINE := fint X G c 91 "FINE" 1000000000000000 rfl
  i_MOST := fint X G c 92 "MOST" 12 rfl
  i_MOST_STEP := fint X G c 93 "MOST_STEP" 10 rfl
  i_MOST_CHARGE := fint X G c 94 "MOST_CHARGE" 30 rfl
  i_MOST_CUT := fint X G c 95 "MOST_CUT" 50 rfl
  i_MOST_DEEDS := fint X G c 96 "MOST_DEEDS" 8 rfl
  t_RULE_MODES := ftup X G c 78 "RULE_MODES" [.str "down", .str "near", .str "nine", .str "up"] _ rfl (Bool.and_eq_true_iff.mp m).1 fun H => .cons (.str _) (.cons (.str _) (.cons (.str _) (.cons (.str _) .nil)))
  t_LOW := ftup X G c 79 "LOW" [.int 1, .int 4] _ rfl (Bool.and_eq_true_iff.mp (Bool.and_eq_true_iff.mp m).2).1 fun H => .cons (.int _) (.cons (.int _) .nil)
  t_HIGH := ftup X G c 80 "HIGH" [.int 4, .int 1] _ rfl (Bool.and_eq_true_iff.mp (Bool.and_eq_true_iff.mp m).2).2 fun H => .cons (.int _) (.cons (.int _) .nil)
end
def spLaw (K : PySem.W.Frag) : Sp := fun vs H Q _ => ∃ (a : Addr) (ns : List Int), vs = [.ref a] ∧ SqL K H a (ns.map V.int) ∧ ∀ H', Q (.bl true) H'
theorem ok_law {P : Program} {w : World} {K : PySem.W.Frag} {mg : Str → Option Value} {base : Heap} {f : Addr} {fd : FuncData} (E : En K mg) (F : FnP K 106 "law" f fd) : FnOk P w K mg base CX0 11 f fd ["_law_script_here"] (spLaw K) := by
  refine F.ok sc_law (fun vs H Q E ⟨a, ns, e, _⟩ => by subst e; rfl) fun cdv A outer s H vs Q Ex hr ⟨a, ns, e, hS, q⟩ => ?_
  subst e
  have em : msk [] H = H := funext fun a => msk_out (by simp)
  refine ⟨_, PSs.nox (law_body E ns f cdv A outer s H Ex ⟨[], [], [], H, H⟩ hr), [], ok_start (M := []) (ds := [.list (ns.map .int)]) nofun (by rw [em]; exact .cons (.lst hS (dpa_of_ints ns)) .nil) (by simp), fun M' v r' σ' H' o' _ dv => ?_⟩
  cases dv
  exact q H'
theorem facts {P : Program} {w : World} {K : PySem.W.Frag} {h : Heap} {mg : Str → Option Value} {f : Addr} (X : K.In h) (G : h.Ns mainGlobals mg) (hfa : mg ("law" : Str) = some (.ref f)) (c : He.SaysD fa fn K) (m : ex K = true) :
    ∃ fd : FuncData, (∀ (s : Shared) (v : Value), BindsTo s fd ⟨[v], []⟩ [("_law_script_here", v)]) ∧ ∀ base : Heap, K.In base → base.Ns mainGlobals mg → FnOk P w K mg base CX0 11 f fd ["_law_script_here"] (spLaw K) := by
  have E := en_of X G c m
  obtain ⟨f', fd, F, hf⟩ := E.f_law
  have e := hfa.symm.trans hf
  cases e
  have b := FunD.bindsA (ps := ["_law_script_here"]) F fun _ _ _ _ _ _ us hl => match us, hl with | [_], _ => rfl
  exact ⟨fd, fun s v => b s [v] rfl, fun base _ _ => ok_law E F⟩
end KH
open PySem PySem.W PySem.Calls PyProof.Rows
theorem PySem.Challenge.cw_anyrate_k06_whole_which_script_is_cheape_holds : PySem.Challenge.rw_anyrate_k06_whole_which_script_is_cheape.Holds := by
  w_on; o_law
  refine HandSHeadRun.head_any (r := OpenLaw.row PySem.Challenge.rw_anyrate_k06_whole_which_script_is_cheape) (q := view (OpenLaw.row PySem.Challenge.rw_anyrate_k06_whole_which_script_is_cheape).prog [106]) (H := KH.hk) (ob := KH.ob) (M := 6000) (loose := KH.names) (d := HandSHeadRun.topDef (OpenLaw.row PySem.Challenge.rw_anyrate_k06_whole_which_script_is_cheape).prog 106) (kwd := []) KH.ob_eq
    (by kernel_rfl) (fun s => by kernel_rfl) KH.run (by kernel_rfl) (by kernel_rfl) (by kernel_rfl) (by rfl) (by first | assumption | decide +kernel) (by decide +kernel) ⟨rfl, rfl, rfl, rfl, rfl, by decide +kernel⟩ ?hw ?hc
  case hw => w_witness2
  case hc =>
    refine L2.walk_ofE (l := PySem.Challenge.rw_anyrate_k06_whole_which_script_is_cheape) (n := 63) (k := 11) (x := "_law_script_here") (CX := L2.CX0) rfl (by decide) (by kernel_rfl) ⟨rfl, by decide, by decide⟩ ?F (fun _ _ _ _ z => z)
    intro w mg fa h Y G hmg0
    obtain ⟨K, KX, c⟩ := Y
    have hmg : mg ("law" : PySem.Str) = some (.ref fa) := by
      have e : (HandSHeadRun.topDef (OpenLaw.row PySem.Challenge.rw_anyrate_k06_whole_which_script_is_cheape).prog 106).name = ("law" : PySem.Str) := by kernel_rfl
      rw [← e]
      exact hmg0
    obtain ⟨fd, hb, hF⟩ := KH.facts (P := (PySem.Challenge.rw_anyrate_k06_whole_which_script_is_cheape).prog) (w := w) KX G hmg c.t.d c.more
    exact ⟨K, fd, KH.spLaw K, KX, hb, fun H a ns hl _ hS => ⟨a, ns, rfl, hS, fun _ => rfl⟩, hF⟩
