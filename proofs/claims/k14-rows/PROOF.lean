import PyProof.Rows.All
import HandS.ForMost
import HandS.Wide
import HandS.TupAny
import HandS.TupMul
import KE.KDictPairs
import Wide.All
import OpenK.AllK
import Wide.FinOn
import HandS.Exc
import HandS.NoneIn
import HandS.SortInts
import HandS.Style
import HandS.CallSlots
import HandS.WordsExc
import HandS.Defaults
import HandS.More
import HandS.ListItems
import HandS.Deep
import HandS.RaiseMore
import HandS.Text
import HandS.Zip
import HandS.HeadEnd
import KE.GoesEnum
import KE.GoesMore
import HandS.ExcInit
import HandS.ExcSuper
import KE.KSuper
import KE.KExcSuper
import HandS.ExcField
import HandS.TryMany
import HandS.CallLocal
import HandS.HeadHook2
import KE.KTupSum
import PyProof.ReprLen
import PyProof.FitsInt
import PySem.Challenge.RW_sumcells_k14_rows_led_by_cells
import HandS.Head0
import HandS.Head1
import HandS.Head2
import HandS.HeadHook1
import HandS.HeadHook4
set_option Elab.async false
set_option linter.all false
set_option maxRecDepth 100000
set_option maxHeartbeats 0
namespace Rf
open PySem PySem.Spec PyProof.Rows L2
abbrev NewT (xs : List V) (H : Hp) (Q : VK) : Prop := ∀ (p : Addr) (o : Obj), o.dict = none → H p = none → Q (.ref p) (upd H p (.frz o (.tup xs)))
section
variable {X : Cx} {pins : List (Addr × Obj)} {σ : L2.St} {H : Hp} {s : Shared} {es : List Expr} {pos : Pos}
theorem laidT {xs : List V} {us : List Value} {k : Nat} {Q : VK} (I : Inv X pins σ H s) (r : Vals xs us) (hz : xs.length ≤ sizeLine) (q : NewT xs H Q) :
    EP X pins σ Q (.ref s.heap.objs.size) { s with heap := s.heap.push { cls := .type "tuple", data := .seq us.toArray }, toks := k } :=
  ⟨.ref s.heap.objs.size, upd H s.heap.objs.size (.frz { cls := .type "tuple", data := .seq us.toArray } (.tup xs)), I.laid (t' := k) (fun _ _ e => Heap.get?_push_of_some _ e) (Nat.le_refl _)
    (show ObjOk X.prog X.w _ _ _ (.frz _ (.tup xs)) from ⟨Heap.get?_push_size _ rfl, hz, us, r, ⟨_, Heap.get?_push_size _ rfl, rfl, _, rfl⟩⟩), rfl, q _ _ rfl (I.hok.fresh (Nat.le_refl _))⟩
def tTupF (t : TA) : TE := fun σ H Q => t σ H fun xs H1 => xs.length ≤ sizeLine ∧ NewT xs H1 Q
theorem pe_tupF {t : TA} {k : Nat} (h : PA X es t) : PE X (.Tuple es k pos) (tTupF t) :=
  ⟨fun pins s σ H Q I hq => wpAny_Tuple_spliced (thn (h.run _ pins s σ H _ I hq) fun us s1 ⟨xs, H1, I1, r, z, q⟩ => ⟨by rw [← r.length]; exact z, laidT (k := s1.toks) I1 r z q⟩)⟩
def rTupleF (K : PySem.W.Frag) : List V → Hp → VK → Prop := fun xs H Q => ∃ p ys, xs = [.ref p] ∧ ((SqL K H p ys ∧ NewT ys H Q) ∨ (SqT K H p ys ∧ Q (.ref p) H))
theorem call_tupleF : CallR X (.type "tuple") (rTupleF X.K) := by
  intro pins s σ H xs us Q I r ⟨p, ys, ex, h⟩
  subst ex
  rw [Vals.ref1 r]
  rcases h with ⟨hq, q⟩ | ⟨hq, q⟩
  · obtain ⟨its, rv, pl, hz⟩ := I.list hq
    have hlen := rv.length
    exact call_tuple_list pl.isList (fun h' kp => laidT (k := s.toks) (I.kept (t' := s.toks) kp) rv hz q) (by simp only [List.size_toArray] <;> omega)
  · obtain ⟨its, rv, pl, hz⟩ := I.tuple hq
    exact call_tuple_same pl ⟨.ref p, H, I, rfl, q⟩
def rCatF (K : PySem.W.Frag) : R2 := fun x y H Q => ∃ a b xs ys, x = .ref a ∧ y = .ref b ∧ SqT K H a xs ∧ SqT K H b ys ∧ xs.length + ys.length ≤ sizeLine ∧ (xs = [] → Q (.ref b) H) ∧ (ys = [] → Q (.ref a) H) ∧ (xs ≠ [] → ys ≠ [] → NewT (xs ++ ys) H Q)
theorem op_catF : OpR X (binaryOp .Add) (rCatF X.K) := by
  intro pins s σ H x y v u Q I rx ry ⟨a, b, xs, ys, ex, ey, ha, hb, hz, q0, q1, q2⟩
  subst ex ey
  cases rx
  cases ry
  obtain ⟨its, r1, p1, _⟩ := I.tuple ha
  obtain ⟨its2, r2, p2, _⟩ := I.tuple hb
  by_cases hx : xs = []
  · subst hx
    cases r1
    exact cat_tup0 p1 p2 ⟨.ref b, H, I, rfl, q0 rfl⟩
  · exact HT.cat_tup p1 p2 (fun z => hx (r1.nil_iff.mp z)) (fun z => ⟨.ref a, H, I, rfl, q1 (r2.nil_iff.mp z)⟩)
      (fun z => laidT (k := s.toks) I (r1.append r2) (by rw [List.length_append]; exact hz) (q2 hx fun w => z (r2.nil_iff.mpr w))) (by rw [← r1.length, ← r2.length]; exact hz)
def rSlF (K : PySem.W.Frag) : V → Option Int → Option Int → Hp → VK → Prop := fun x lo hi H Q => ∃ a xs, x = .ref a ∧ SqT K H a xs ∧
  (HT.sIx xs.length 0 lo = 0 ∧ HT.sIx xs.length xs.length hi = xs.length → Q (.ref a) H) ∧ NewT (cutV xs lo hi) H Q
theorem sl_tupF : SlR X (rSlF X.K) := by
  intro pins s σ H x v vl vu lo hi sl Q I rx hs pl pu ⟨a, xs, ex, hx, q1, q2⟩
  subst ex
  cases rx
  obtain ⟨its, r, ht, hz⟩ := I.tuple hx
  have hlen : its.toArray.size = xs.length := by rw [List.size_toArray]; exact r.length.symm
  refine ⟨"tuple", _, PyProof.Rows.slot_tuple_getitem.lookup, ht.typeIs, ?_⟩
  by_cases hw : HT.sIx xs.length 0 lo = 0 ∧ HT.sIx xs.length xs.length hi = xs.length
  · exact getItem_tuple_whole ht hs pl pu (by rw [hlen]; exact hw) ⟨.ref a, H, I, rfl, q1 hw⟩
  · refine HT.getItem_tuple_cut ht hs pl pu (by rw [hlen]; exact hw) ?_ (by rw [hlen]; exact hz)
    rw [hlen]
    exact laidT (k := s.toks) I ((r.drop _).take _) (Nat.le_trans (cutV_length xs lo hi) hz) q2
def rRepF (K : PySem.W.Frag) : R2 := fun x y H Q => ∃ l k xs, x = .ref l ∧ y = .int k ∧ SqT K H l xs ∧ xs ≠ [] ∧ 2 ≤ k ∧ k ≤ 1000 ∧ xs.length ≤ 1000 ∧ NewT (List.replicate k.toNat xs).flatten H Q
theorem op_repF : OpR X (binaryOp .Mult) (rRepF X.K) := by
  intro pins s σ H x y v u Q I rx ry ⟨l, k, xs, ex, ey, hT, hne, h1, h2, hz, q⟩
  subst ex ey
  cases rx
  obtain ⟨t, rfl⟩ := ry
  obtain ⟨its, r, ⟨⟨cls, dd, data, sl⟩, ho, hc, n, hd⟩, _⟩ := I.tuple hT
  simp only at hc hd
  subst hc hd
  have hle : its.length = xs.length := r.length.symm
  have hi : its.toArray.isEmpty = false := by
    cases its with
    | nil => exact absurd (List.eq_nil_of_length_eq_zero hle.symm) hne
    | cons _ _ => rfl
  have hsz0 : its.toArray.size = xs.length := by rw [List.size_toArray, hle]
  have few : k.toNat * xs.length ≤ 1000 * 1000 := Nat.mul_le_mul (by omega) hz
  have few2 : (List.replicate k.toNat xs).flatten.length ≤ sizeLine := by
    rw [PyProof.Rows.lm_len_rep_flat, sizeLine_eq]; omega
  have hm : ((its.toArray.size : Nat) : Int) * k ≤ 1000000 := by
    have a1 : ((xs.length : Nat) : Int) * k ≤ 1000 * k := Int.mul_le_mul_of_nonneg_right (by omega) (by omega)
    rw [hsz0]; omega
  have c0 : (decide (k < -(2 ^ 63)) || decide (k ≥ 2 ^ 63)) = false := by simp; omega
  have c1 : (its.toArray.isEmpty || k == 1) = false := by rw [hi]; simp; omega
  have c2 : (decide (k ≤ 0) || its.toArray.isEmpty) = false := by rw [hi]; simp; omega
  have c4 : Builtin.Tuple.tupleTooMany (((its.toArray.size : Nat) : Int) * k) = false := by
    unfold Builtin.Tuple.tupleTooMany
    rw [sizeLine_eq]
    exact decide_eq_false (by omega)
  have c5 : (List.replicate k.toNat its).flatten.length ≤ sizeLine := by
    rw [PyProof.Rows.lm_len_rep_flat, hle, sizeLine_eq]; omega
  refine wpAny_binaryOp_repeat_ref (T := "tuple") (U := "int") (by decide) ⟨_, ho, rfl⟩ (fun s' => typeIs_int s' k t) noFill_tuple_mul PySem.F.fills_int_mul PySem.F.slot_int_rmul repeat_tuple PySem.F.slot_int_index.lookup ?_
  refine call_meets PySem.F.slot_int_rmul (typeIs_int s k t) PySem.F.entry_int_rmul (PySem.F.args_int_rmul_2 _ _) (int_rmul_tuple k t l its.toArray n dd sl) ⟨ho, rfl, ⟨_, ho, rfl⟩, ?_⟩
  refine call_meets PySem.F.slot_tuple_mul ⟨_, ho, rfl⟩ PySem.F.entry_tuple_mul (PySem.F.args_tuple_mul_2 _ _) (tuple_mulW l its.toArray n dd sl k t c0 c1 c2 (by omega) c4 (by rw [size_rep, List.size_toArray]; exact c5)) ⟨ho, ?_⟩
  rw [size_rep]
  exact laidT (k := s.toks) I (r.rep k.toNat) few2 q
def PlainT (K : PySem.W.Frag) (F : Hp) (a : Addr) (xs : List V) : Prop := (∃ o : Obj, F a = some (.frz o (.tup xs)) ∧ o.dict = none) ∨
  ∃ (o : Obj) (its : Array Value) (n : Nat), K.lookup a = some o ∧ o.cls = .type "tuple" ∧ o.data = .seq its n ∧ its.size ≤ sizeLine ∧ Vals xs its.toList ∧ o.dict = none
theorem PlainT.sqT {K : PySem.W.Frag} {F : Hp} {a : Addr} {xs : List V} (h : PlainT K F a xs) : SqT K F a xs := by
  rcases h with ⟨o, h, _⟩ | ⟨o, its, n, h1, h2, h3, h4, h5, _⟩
  · exact .inl (.inr ⟨o, h⟩)
  · exact .inr ⟨o, its, n, h1, h2, h3, h4, h5⟩
theorem PlainT.mono {K : PySem.W.Frag} {F F' : Hp} {a : Addr} {xs : List V} (h : PlainT K F a xs) (m : ∀ a o, F a = some o → F' a = some o) : PlainT K F' a xs := by
  rcases h with ⟨o, h, e⟩ | h
  · exact .inl ⟨o, m _ _ h, e⟩
  · exact .inr h
theorem PlainT.seq {xs : List V} {a : Addr} (h : PlainT X.K H a xs) (I : Inv X pins σ H s) : ∃ its : List Value, Vals xs its ∧ PlainSeq "tuple" s.heap a its.toArray ∧ xs.length ≤ sizeLine := by
  rcases h with ⟨o, h, e⟩ | ⟨o, its, n, h1, h2, h3, h4, h5, e⟩
  · obtain ⟨ho, hz, its, r, o', ho', hc, n, hd⟩ := I.hok a _ h
    rw [ho] at ho'
    cases ho'
    exact ⟨its, r, ⟨o, n, ho, hc, e, hd⟩, hz⟩
  · refine ⟨its.toList, h5, ⟨o, n, I.kIn a o h1, h2, e, by simpa using h3⟩, ?_⟩
    rw [h5.length, Array.length_toList]; exact h4
theorem pairs_both (I : Inv X pins σ H s) : ∀ {ps : List Addr} {kvs : List (Key × V)}, Paired (fun p kv => SqT X.K H p [kV kv.1, kv.2]) ps kvs →
    ∃ (prs : List (Key × Value)) (pv : List (Value × Value)), KV kvs prs ∧ prs.length = ps.length ∧ pv.length = ps.length ∧
      ∀ (j : Nat) (u y : Value), pv[j]? = some (u, y) → ∃ (b : Addr) (k : Key), ps[j]? = some b ∧ prs[j]? = some (k, y) ∧ IsTup s.heap b #[u, y] ∧ keyIs k u = true
  | _, _, .nil => ⟨[], [], .nil, rfl, rfl, fun j u y e => by simp at e⟩
  | _, _, .cons (a := p) (b := kv) h t => by
    obtain ⟨prs, pv, r, l1, l2, f⟩ := pairs_both I t
    obtain ⟨its, rv, ht, _⟩ := I.tuple h
    obtain ⟨u, y, ei, ru, ry⟩ := vals2 rv
    subst ei
    refine ⟨(kv.1, y) :: prs, (u, y) :: pv, .cons ⟨rfl, ry⟩ r, by simp [l1], by simp [l2], fun j u' y' e => ?_⟩
    cases j with
    | zero =>
      simp only [List.getElem?_cons_zero, Option.some.injEq, Prod.mk.injEq] at e
      obtain ⟨rfl, rfl⟩ := e
      exact ⟨p, kv.1, rfl, rfl, ht, kV_is (P := X.prog) (w := X.w) ru⟩
    | succ j =>
      obtain ⟨b, k, e1, e2, e3⟩ := f j u' y' (by simpa using e)
      exact ⟨b, k, by simpa using e1, by simpa using e2, e3⟩
def rDictF (K : PySem.W.Frag) : List V → Hp → VK → Prop := fun xs H Q => ∃ (a : Addr) (ps : List Addr) (kvs : List (Key × V)), xs = [.ref a] ∧ PlainT K H a (ps.map V.ref) ∧ Paired (fun p kv => SqT K H p [kV kv.1, kv.2]) ps kvs ∧
    ∀ p, H p = none → Q (.ref p) (upd H p (.dK (mergeK [] kvs)))
theorem call_dictF (hc : X.calm = true) : CallR X (.type "dict") (rDictF X.K) := by
  intro pins s σ H xs us Q I r ⟨a, ps, kvs, ex, hq, hp, q⟩
  subst ex
  rw [Vals.ref1 r]
  obtain ⟨its, rv, hpl, hz⟩ := hq.seq I
  have ei := refs_at rv
  subst ei
  rw [List.length_map] at hz
  obtain ⟨prs, pv, rel, l1, l2, f⟩ := pairs_both I hp
  have hitems : PairItems s.heap (ps.map Value.ref).toArray (fun j => ps.getD j 0) pv := ⟨by simp [l2], fun j u y e => by
    obtain ⟨b, k, e1, e2, e3, e4⟩ := f j u y e
    have eb : ps.getD j 0 = b := by rw [List.getD_eq_getElem?_getD, e1]; rfl
    exact ⟨by simp [e1], show PairAt s.heap (ps.getD j 0) u y by rw [eb]; exact .inl e3⟩⟩
  refine _root_.PySem.call_dict_pairs (knd := mixKind X.prog X.w) (kvs := prs) (PairArg.tuple a (ps.map Value.ref).toArray (fun j => ps.getD j 0) pv) (I.ok.hd hc) ⟨hpl, hitems⟩
    ⟨by rw [l1, l2], fun j u y e => by obtain ⟨b, k, e1, e2, e3, e4⟩ := f j u y e; exact ⟨k, e2, e4⟩⟩ (by rw [l2]; exact hz) fun h' tk hd' hk => ?_
  have hm : (s.heap.objs.size == sysModules) = false := beq_eq_false_iff_ne.mpr (Nat.ne_of_gt I.big)
  have hlen : (mergeK [] kvs).length ≤ sizeLine := by
    refine Nat.le_trans (length_mergeK kvs []) ?_
    rw [List.length_nil, Nat.zero_add, rel.length, l1]
    exact hz
  exact ⟨.ref s.heap.objs.size, upd H s.heap.objs.size (.dK (mergeK [] kvs)), I.laid (t' := tk) (fun b o e => hk b o (by simp) e) (Nat.le_refl _) (show ObjOk X.prog X.w _ _ _ (.dK (mergeK [] kvs)) from ⟨hlen, hm, merged [] prs, KV.merge rel .nil, hd'⟩), rfl, q _ (I.hok.fresh (Nat.le_refl _))⟩
end
end Rf

namespace Rf
open PySem PySem.Spec PyProof.Rows L2

abbrev Dt := PyData
abbrev fnD (x : Str) : Dt := .dict [(.none, .str x)]
abbrev srcD : Dt := .dict [(.none, .none)]
abbrev scrD (ds : List Dt) : Dt := .dict [(.none, .list ds)]
structure Bs where
  K : PySem.W.Frag
  mg : Str → Option Value
structure Fz where
  F : Hp
  sa : Option (Addr × Addr)
def kD : Key → Dt
  | .inl i => .int i
  | .inr x => .str x
theorem kD_inj {a b : Key} (h : kD a = kD b) : a = b := by
  cases a <;> cases b <;> simp [kD] at h <;> rw [h]
theorem kD_ne_none {a : Key} (h : kD a = .none) : False := by
  cases a <;> simp [kD] at h

def pairI : Dt → Bool
  | .tuple [.int _, _] => true
  | .tuple [.str _, _] => true
  | _ => false
mutual
inductive Rep (B : Bs) (z : Fz) : V → Dt → Prop
  | non : Rep B z .non .none
  | bl (b : Bool) : Rep B z (.bl b) (.bool b)
  | int (i : Int) : Rep B z (.int i) (.int i)
  | str (x : Str) : Rep B z (.str x) (.str x)
  | lst {a : Addr} {xs : List V} {ds : List Dt} : z.F a = some (.lst xs) → Reps B z xs ds → Rep B z (.ref a) (.list ds)
  | tup {a : Addr} {xs : List V} {ds : List Dt} : SqT B.K z.F a xs → (PlainT B.K z.F a xs ∨ ds.all pairI = false) → Reps B z xs ds → Rep B z (.ref a) (.tuple ds)
  | dic {a : Addr} {kvs : List (Key × V)} {ds : List (Dt × Dt)} : z.F a = some (.dK kvs) → KReps B z kvs ds → Rep B z (.ref a) (.dict ds)
  | fn {a : Addr} {x : Str} : B.mg x = some (.ref a) → Rep B z (.ref a) (.dict [(.none, .str x)])
  | src {a c : Addr} : z.sa = some (a, c) → Rep B z (.ref a) (.dict [(.none, .none)])
  | scr {a : Addr} {xs : List V} {ds : List Dt} : SqL B.K z.F a xs → Reps B z xs ds → Rep B z (.ref a) (.dict [(.none, .list ds)])
inductive Reps (B : Bs) (z : Fz) : List V → List Dt → Prop
  | nil : Reps B z [] []
  | cons {v : V} {vs : List V} {d : Dt} {ds : List Dt} : Rep B z v d → Reps B z vs ds → Reps B z (v :: vs) (d :: ds)
inductive KReps (B : Bs) (z : Fz) : List (Key × V) → List (Dt × Dt) → Prop
  | nil : KReps B z [] []
  | cons {k : Key} {v : V} {r : List (Key × V)} {d : Dt} {ds : List (Dt × Dt)} : Rep B z v d → KReps B z r ds → KReps B z ((k, v) :: r) ((kD k, d) :: ds)
end

section
variable {B : Bs} {z z' : Fz}
structure Fz.le (z z' : Fz) : Prop where
  F : ∀ a o, z.F a = some o → z'.F a = some o
  sa : ∀ p, z.sa = some p → z'.sa = some p
theorem Fz.le.refl (z : Fz) : z.le z := ⟨fun _ _ h => h, fun _ h => h⟩
theorem Fz.le.trans {z z1 z2 : Fz} (a : z.le z1) (b : z1.le z2) : z.le z2 := ⟨fun x o h => b.F x o (a.F x o h), fun p h => b.sa p (a.sa p h)⟩
theorem rd_mono {H H' : Hp} (h : ∀ a o, H a = some o → H' a = some o) {a : Addr} {u : HO} (r : Rd H a u) : Rd H' a u := by
  rcases r with r | ⟨o, r⟩
  · exact .inl (h _ _ r)
  · exact .inr ⟨o, h _ _ r⟩
theorem sqL_mono {K : PySem.W.Frag} {H H' : Hp} (h : ∀ a o, H a = some o → H' a = some o) {a : Addr} {xs : List V} (r : SqL K H a xs) : SqL K H' a xs := by
  rcases r with r | r
  · exact .inl (rd_mono h r)
  · exact .inr r
theorem sqT_mono {K : PySem.W.Frag} {H H' : Hp} (h : ∀ a o, H a = some o → H' a = some o) {a : Addr} {xs : List V} (r : SqT K H a xs) : SqT K H' a xs := by
  rcases r with r | r
  · exact .inl (rd_mono h r)
  · exact .inr r
mutual
theorem Rep.mono (h : z.le z') : ∀ {v : V} {d : Dt}, Rep B z v d → Rep B z' v d
  | _, _, .non => .non
  | _, _, .bl b => .bl b
  | _, _, .int i => .int i
  | _, _, .str x => .str x
  | _, _, .lst s r => .lst (h.F _ _ s) (Reps.mono h r)
  | _, _, .scr s r => .scr (sqL_mono h.F s) (Reps.mono h r)
  | _, _, .tup s p r => .tup (sqT_mono h.F s) (p.imp (fun p => p.mono h.F) id) (Reps.mono h r)
  | _, _, .dic s r => .dic (h.F _ _ s) (KReps.mono h r)
  | _, _, .fn e => .fn e
  | _, _, .src e => .src (h.sa _ e)
theorem Reps.mono (h : z.le z') : ∀ {vs : List V} {ds : List Dt}, Reps B z vs ds → Reps B z' vs ds
  | _, _, .nil => .nil
  | _, _, .cons r rs => .cons (Rep.mono h r) (Reps.mono h rs)
theorem KReps.mono (h : z.le z') : ∀ {vs : List (Key × V)} {ds : List (Dt × Dt)}, KReps B z vs ds → KReps B z' vs ds
  | _, _, .nil => .nil
  | _, _, .cons r rs => .cons (Rep.mono h r) (KReps.mono h rs)
end

theorem Reps.length : ∀ {vs : List V} {ds : List Dt}, Reps B z vs ds → vs.length = ds.length
  | _, _, .nil => rfl
  | _, _, .cons _ r => by simp [Reps.length r]
theorem Reps.append : ∀ {vs ws : List V} {ds es : List Dt}, Reps B z vs ds → Reps B z ws es → Reps B z (vs ++ ws) (ds ++ es)
  | _, _, _, _, .nil, s => s
  | _, _, _, _, .cons r rs, s => .cons r (Reps.append rs s)
theorem Reps.get : ∀ {vs : List V} {ds : List Dt} {i : Nat} {v : V}, Reps B z vs ds → vs[i]? = some v → ∃ d, ds[i]? = some d ∧ Rep B z v d
  | _, _, _, _, .nil, e => by simp at e
  | _, _, 0, _, .cons r _, e => by simp at e; subst e; exact ⟨_, rfl, r⟩
  | _, _, i + 1, v, .cons _ rs, e => by
    obtain ⟨d, h1, h2⟩ := Reps.get (i := i) (v := v) rs (by simpa using e)
    exact ⟨d, by simpa using h1, h2⟩
theorem Reps.getD : ∀ {vs : List V} {ds : List Dt} {i : Nat} {d : Dt}, Reps B z vs ds → ds[i]? = some d → ∃ v, vs[i]? = some v ∧ Rep B z v d
  | _, _, _, _, .nil, e => by simp at e
  | _, _, 0, _, .cons r _, e => by simp at e; subst e; exact ⟨_, rfl, r⟩
  | _, _, i + 1, v, .cons _ rs, e => by
    obtain ⟨d, h1, h2⟩ := Reps.getD (i := i) (d := v) rs (by simpa using e)
    exact ⟨d, by simpa using h1, h2⟩
theorem Reps.set {v : V} {d : Dt} (r : Rep B z v d) : ∀ {vs : List V} {ds : List Dt} (i : Nat), Reps B z vs ds → Reps B z (vs.set i v) (ds.set i d)
  | _, _, _, .nil => .nil
  | _, _, 0, .cons _ rs => .cons r rs
  | _, _, i + 1, .cons q rs => .cons q (Reps.set r i rs)
theorem Reps.take : ∀ {vs : List V} {ds : List Dt} (n : Nat), Reps B z vs ds → Reps B z (vs.take n) (ds.take n)
  | _, _, 0, _ => by simpa using Reps.nil
  | _, _, _ + 1, .nil => .nil
  | _, _, n + 1, .cons r rs => .cons r (Reps.take n rs)
theorem Reps.drop : ∀ {vs : List V} {ds : List Dt} (n : Nat), Reps B z vs ds → Reps B z (vs.drop n) (ds.drop n)
  | _, _, 0, r => by simpa using r
  | _, _, _ + 1, .nil => .nil
  | _, _, n + 1, .cons _ rs => Reps.drop n rs
theorem Reps.reverse {vs : List V} {ds : List Dt} (r : Reps B z vs ds) : Reps B z vs.reverse ds.reverse := by
  induction vs generalizing ds with
  | nil => cases r; exact .nil
  | cons v vs ih =>
    cases r with
    | cons r rs =>
      rw [List.reverse_cons, List.reverse_cons]
      exact Reps.append (ih rs) (.cons r .nil)
theorem Reps.replicate {v : V} {d : Dt} (r : Rep B z v d) : ∀ n : Nat, Reps B z (List.replicate n v) (List.replicate n d)
  | 0 => .nil
  | n + 1 => .cons r (Reps.replicate r n)
theorem KReps.length : ∀ {vs : List (Key × V)} {ds : List (Dt × Dt)}, KReps B z vs ds → vs.length = ds.length
  | _, _, .nil => rfl
  | _, _, .cons _ r => by simp [KReps.length r]
theorem KReps.append : ∀ {vs ws : List (Key × V)} {ds es : List (Dt × Dt)}, KReps B z vs ds → KReps B z ws es → KReps B z (vs ++ ws) (ds ++ es)
  | _, _, _, _, .nil, s => s
  | _, _, _, _, .cons r rs, s => .cons r (KReps.append rs s)

theorem Rep.int_inv {v : V} {i : Int} (r : Rep B z v (.int i)) : v = .int i := by cases r; rfl
theorem Rep.str_inv {v : V} {i : Str} (r : Rep B z v (.str i)) : v = .str i := by cases r; rfl
theorem Rep.bl_inv {v : V} {i : Bool} (r : Rep B z v (.bool i)) : v = .bl i := by cases r; rfl
theorem Rep.non_inv {v : V} (r : Rep B z v .none) : v = .non := by cases r; rfl
theorem Rep.lst_inv {v : V} {ds : List Dt} (r : Rep B z v (.list ds)) : ∃ a xs, v = .ref a ∧ z.F a = some (.lst xs) ∧ Reps B z xs ds := by
  cases r with
  | lst s r => exact ⟨_, _, rfl, s, r⟩
theorem Rep.tup_inv {v : V} {ds : List Dt} (r : Rep B z v (.tuple ds)) : ∃ a xs, v = .ref a ∧ SqT B.K z.F a xs ∧ Reps B z xs ds := by
  cases r with
  | tup s _ r => exact ⟨_, _, rfl, s, r⟩
theorem Rep.tupP_inv {v : V} {ds : List Dt} (r : Rep B z v (.tuple ds)) : ∃ a xs, v = .ref a ∧ SqT B.K z.F a xs ∧ (PlainT B.K z.F a xs ∨ ds.all pairI = false) ∧ Reps B z xs ds := by
  cases r with
  | tup s p r => exact ⟨_, _, rfl, s, p, r⟩
theorem Reps.ints : ∀ {vs : List V} {ns : List Int}, Reps B z vs (ns.map PyData.int) → vs = ns.map V.int
  | _, [], .nil => rfl
  | _, _ :: _, .cons r rs => by
    rw [r.int_inv, Reps.ints rs]
    rfl
theorem Reps.of_ints : ∀ (ns : List Int), Reps B z (ns.map V.int) (ns.map PyData.int)
  | [] => .nil
  | n :: ns => .cons (.int n) (Reps.of_ints ns)
end

mutual
theorem Rep.dp {B : Bs} {z : Fz} {H : Hp} (h : ∀ a o, z.F a = some o → H a = some o) : ∀ {v : V} {d : Dt}, Rep B z v d → d.hasDict = false → Dp B.K H v d
  | _, _, .non, _ => .non
  | _, _, .bl b, _ => .bl b
  | _, _, .int i, _ => .int i
  | _, _, .str x, _ => .str x
  | _, _, .lst s r, q => .lst (.of (h _ _ s)) (Reps.dp h r (by simpa [PyData.hasDict] using q))
  | _, _, .tup s _ r, q => .tup (sqT_mono h s) (Reps.dp h r (by simpa [PyData.hasDict] using q))
  | _, _, .dic s r, q => by simp [PyData.hasDict] at q
  | _, _, .fn e, q => by simp [PyData.hasDict] at q
  | _, _, .src e, q => by simp [PyData.hasDict] at q
  | _, _, .scr s r, q => by simp [PyData.hasDict] at q
theorem Reps.dp {B : Bs} {z : Fz} {H : Hp} (h : ∀ a o, z.F a = some o → H a = some o) : ∀ {vs : List V} {ds : List Dt}, Reps B z vs ds → PyData.hasDictAll ds = false → DpAll B.K H vs ds
  | _, _, .nil, _ => .nil
  | _, _, .cons r rs, q => by
    simp only [PyData.hasDictAll, Bool.or_eq_false_iff] at q
    exact .cons (Rep.dp h r q.1) (Reps.dp h rs q.2)
end
end Rf

namespace Rf
open PySem PySem.Spec PyProof.Rows L2

inductive Slot where
  | no | fz (d : Dt) | ow (d : Dt)
structure Src where
  cells : List Nat
  left : Nat
  mixed : Nat
  turn : Nat
structure S where
  env : List Slot
  am : Option Src
inductive Val where
  | st (d : Dt) | ow (d : Dt) | sl (i : Nat)
structure Ex where
  cls : Str
  fs : List (Str × Dt)
inductive R (α : Type) where
  | ok (a : α) (s : S) | ex (e : Ex) (am : Option Src) | bad
abbrev M (α : Type) := S → R α
def R.bind {α β : Type} (r : R α) (f : α → S → R β) : R β := match r with
  | .ok a s => f a s
  | .ex e am => .ex e am
  | .bad => .bad
@[simp] theorem R.bind_ok {α β : Type} {a : α} {s : S} {f : α → S → R β} : (R.ok a s).bind f = f a s := rfl
@[simp] theorem R.bind_ex {α β : Type} {e : Ex} {am : Option Src} {f : α → S → R β} : (R.ex e am : R α).bind f = .ex e am := rfl
@[simp] theorem R.bind_bad {α β : Type} {f : α → S → R β} : (R.bad : R α).bind f = .bad := rfl

inductive OwnO (B : Bs) (z : Fz) : Dt → HO → Prop
  | lst {vs : List V} {ds : List Dt} : Reps B z vs ds → OwnO B z (.list ds) (.lst vs)
  | dK {kvs : List (Key × V)} {ds : List (Dt × Dt)} : KReps B z kvs ds → OwnO B z (.dict ds) (.dK kvs)
theorem OwnO.mono {B : Bs} {z z' : Fz} (h : z.le z') {d : Dt} {o : HO} (r : OwnO B z d o) : OwnO B z' d o := by
  cases r with
  | lst r => exact .lst (r.mono h)
  | dK r => exact .dK (r.mono h)

section
variable (B : Bs)
def SlotOk (z : Fz) (H : Hp) : Slot → Option V → Prop
  | .no, _ => True
  | .fz d, o => ∃ v, o = some v ∧ Rep B z v d
  | .ow d, o => ∃ p ho, o = some (.ref p) ∧ H p = some ho ∧ OwnO B z d ho ∧ z.F p = none
def SlotAt (σ : L2.St) (env : List Slot) (i : Nat) (p : Addr) : Prop := ∃ d, env[i]? = some (.ow d) ∧ σ[i]? = some (some (.ref p))
def AmbAt (z : Fz) (p : Addr) : Prop := ∃ a c, z.sa = some (a, c) ∧ (p = a ∨ p = c)
def Own (σ : L2.St) (env : List Slot) (z : Fz) (p : Addr) : Prop := AmbAt z p ∨ ∃ i, SlotAt σ env i p
def kCells : Key := .inr "cells"
def kLeft : Key := .inr "left"
def kMixed : Key := .inr "mixed"
def kTurn : Key := .inr "turn"
def srcKvs (c : Addr) (s : Src) : List (Key × V) := [(kCells, .ref c), (kLeft, .int (s.left : Nat)), (kMixed, .int (s.mixed : Nat)), (kTurn, .int (s.turn : Nat))]
def AmbOk (z : Fz) (H : Hp) : Option Src → Prop
  | none => z.sa = none
  | some s => ∃ a c, z.sa = some (a, c) ∧ a ≠ c ∧ H a = some (.dK (srcKvs c s)) ∧ H c = some (.lst (s.cells.map fun n => V.int (n : Nat))) ∧ z.F a = none ∧ z.F c = none
structure Good (z : Fz) (H : Hp) (σ : L2.St) (s : S) : Prop where
  len : s.env.length = σ.length
  sub : ∀ a o, z.F a = some o → H a = some o
  slots : ∀ (i : Nat) (x : Slot) (o : Option V), s.env[i]? = some x → σ[i]? = some o → SlotOk B z H x o
  apart : ∀ (i j : Nat) (p : Addr), SlotAt σ s.env i p → SlotAt σ s.env j p → i = j
  amb : AmbOk z H s.am
  ambS : ∀ (i : Nat) (p : Addr), SlotAt σ s.env i p → ¬ AmbAt z p
structure Ext (own : Addr → Prop) (z : Fz) (H : Hp) (z' : Fz) (H' : Hp) : Prop where
  keep : ∀ a o, H a = some o → ¬ own a → H' a = some o
  there : ∀ a, H' a = none → H a = none
  le : z.le z'
  new : ∀ a o, z'.F a = some o → z.F a = some o ∨ own a ∨ H a = none
  newS : ∀ a c, z'.sa = some (a, c) → z.sa = some (a, c) ∨ (H a = none ∧ H c = none)
def OwnSub (own : Addr → Prop) (H : Hp) (own' : Addr → Prop) : Prop := ∀ p, own' p → own p ∨ H p = none
def ValOk (z : Fz) (H : Hp) (σ : L2.St) (own : Addr → Prop) (v : V) : Val → Prop
  | .st d => Rep B z v d
  | .ow d => ∃ p ho, v = .ref p ∧ H p = some ho ∧ OwnO B z d ho ∧ z.F p = none ∧ ¬ own p
  | .sl i => σ[i]? = some (some v)
end

section
variable {B : Bs} {own own1 : Addr → Prop} {z z1 z2 : Fz} {H H1 H2 : Hp} {σ : L2.St} {s : S}
theorem Ext.refl (own : Addr → Prop) (z : Fz) (H : Hp) : Ext own z H z H := ⟨fun _ _ h _ => h, fun _ h => h, .refl _, fun _ _ h => .inl h, fun _ _ h => .inl h⟩
theorem OwnSub.refl (own : Addr → Prop) (H : Hp) : OwnSub own H own := fun _ h => .inl h
theorem Ext.trans (a : Ext own z H z1 H1) (sub : OwnSub own H own1) (b : Ext own1 z1 H1 z2 H2) : Ext own z H z2 H2 := by
  refine ⟨fun x o h n => ?_, fun x h => a.there x (b.there x h), a.le.trans b.le, fun x o h => ?_, fun x c h => ?_⟩
  · refine b.keep x o (a.keep x o h n) fun q => ?_
    rcases sub x q with y | y
    · exact n y
    · rw [y] at h; cases h
  · rcases b.new x o h with h1 | h1 | h1
    · exact a.new x o h1
    · exact .inr (sub x h1)
    · exact .inr (.inr (a.there x h1))
  · rcases b.newS x c h with h1 | ⟨h1, h2⟩
    · exact a.newS x c h1
    · exact .inr ⟨a.there x h1, a.there c h2⟩
theorem OwnSub.trans (sub : OwnSub own H own1) (a : ∀ x, H1 x = none → H x = none) {own2 : Addr → Prop} (sub2 : OwnSub own1 H1 own2) : OwnSub own H own2 := fun p q => by
  rcases sub2 p q with y | y
  · exact sub p y
  · exact .inr (a p y)
theorem Ext.mono (a : Ext own1 z H z1 H1) (h : ∀ p, own1 p → own p) : Ext own z H z1 H1 :=
  ⟨fun x o q n => a.keep x o q fun y => n (h x y), a.there, a.le, fun x o q => (a.new x o q).imp_right (.imp_left (h x)), a.newS⟩
theorem own_amb {env : List Slot} {p : Addr} (h : AmbAt z p) : Own σ env z p := .inl h
theorem Ext.laid {p : Addr} {o : HO} (hp : H p = none) : Ext own z H z (upd H p o) := by
  refine ⟨fun a u h _ => by rw [upd_ne (ne_of_none h hp)]; exact h, fun a h => ?_, .refl _, fun _ _ h => .inl h, fun _ _ h => .inl h⟩
  by_cases e : a = p
  · rw [e]; exact hp
  · rw [upd_ne e] at h; exact h
theorem Ext.write {p : Addr} {o : HO} (hp : own p) : Ext own z H z (upd H p o) := by
  refine ⟨fun a u h n => by rw [upd_ne (show a ≠ p from fun e => n (by rw [e]; exact hp))]; exact h, fun a h => ?_, .refl _, fun _ _ h => .inl h, fun _ _ h => .inl h⟩
  by_cases e : a = p
  · rw [e, upd_same] at h; cases h
  · rw [upd_ne e] at h; exact h

theorem SlotOk.mono {x : Slot} {o : Option V} (h : SlotOk B z H x o) (le : z.le z1) (hk : ∀ p u, o = some (.ref p) → (∃ d, x = .ow d) → H p = some u → z.F p = none → H1 p = some u ∧ z1.F p = none) : SlotOk B z1 H1 x o := by
  cases x with
  | no => trivial
  | fz d => obtain ⟨v, e, r⟩ := h; exact ⟨v, e, r.mono le⟩
  | ow d =>
    obtain ⟨p, ho, e, hp, r, f⟩ := h
    obtain ⟨h1, h2⟩ := hk p ho e ⟨d, rfl⟩ hp f
    exact ⟨p, ho, e, h1, r.mono le, h2⟩
theorem AmbOk.addr {a : Option Src} (h : AmbOk z H a) {p : Addr} (hp : AmbAt z p) : ∃ o, H p = some o ∧ z.F p = none := by
  obtain ⟨a', c', e, hp⟩ := hp
  cases a with
  | none => rw [show z.sa = none from h] at e; cases e
  | some s =>
    obtain ⟨a, c, e', _, h1, h2, h3, h4⟩ := h
    rw [e] at e'
    obtain ⟨rfl, rfl⟩ : a' = a ∧ c' = c := by simpa using e'
    rcases hp with rfl | rfl
    · exact ⟨_, h1, h3⟩
    · exact ⟨_, h2, h4⟩
theorem Good.slotAt (g : Good B z H σ s) {i : Nat} {p : Addr} (h : SlotAt σ s.env i p) : ∃ d ho, s.env[i]? = some (.ow d) ∧ σ[i]? = some (some (.ref p)) ∧ H p = some ho ∧ OwnO B z d ho ∧ z.F p = none := by
  obtain ⟨d, e1, e2⟩ := h
  obtain ⟨q, ho, e, hq, r, f⟩ := g.slots i _ _ e1 e2
  cases e
  exact ⟨d, ho, e1, e2, hq, r, f⟩
theorem Good.own_there (g : Good B z H σ s) {p : Addr} (h : Own σ s.env z p) : ∃ o, H p = some o ∧ z.F p = none := by
  rcases h with h | ⟨i, h⟩
  · exact g.amb.addr h
  · obtain ⟨_, ho, _, _, h1, _, h2⟩ := g.slotAt h
    exact ⟨ho, h1, h2⟩
theorem Good.own_new (g : Good B z H σ s) {p : Addr} (h : H p = none) : ¬ Own σ s.env z p := fun q => by
  obtain ⟨o, e, _⟩ := g.own_there q
  rw [h] at e; cases e
theorem Good.laid (g : Good B z H σ s) {p : Addr} {o : HO} (hp : H p = none) : Good B z (upd H p o) σ s := by
  have ne : ∀ {a u}, H a = some u → a ≠ p := fun h => ne_of_none h hp
  refine ⟨g.len, fun a u h => by rw [upd_ne (ne (g.sub a u h))]; exact g.sub a u h, fun i x q e1 e2 => (g.slots i x q e1 e2).mono (.refl _) fun a u _ _ h f => ⟨by rw [upd_ne (ne h)]; exact h, f⟩, g.apart, ?_, g.ambS⟩
  have := g.amb
  cases e : s.am with
  | none => rw [e] at this; exact this
  | some r =>
    rw [e] at this
    obtain ⟨a, c, e', n, h1, h2, h3, h4⟩ := this
    exact ⟨a, c, e', n, by rw [upd_ne (ne h1)]; exact h1, by rw [upd_ne (ne h2)]; exact h2, h3, h4⟩
def Fz.put (z : Fz) (p : Addr) (o : HO) : Fz := ⟨upd z.F p o, z.sa⟩
theorem Fz.put_le {p : Addr} {o : HO} (h : z.F p = none) : z.le (z.put p o) := ⟨fun a u e => by
  show upd z.F p o a = _
  rw [upd_ne (ne_of_none e h)]; exact e, fun _ h => h⟩
theorem Good.freeze (g : Good B z H σ s) {p : Addr} {o : HO} (hH : H p = some o) (hz : z.F p = none) (hn : ¬ Own σ s.env z p) : Good B (z.put p o) H σ s := by
  have ne : ∀ {a}, Own σ s.env z a → a ≠ p := fun h e => hn (e ▸ h)
  have fp : ∀ {a}, a ≠ p → z.F a = none → (z.put p o).F a = none := fun h e => by show upd z.F p o _ = _; rw [upd_ne h]; exact e
  refine ⟨g.len, fun a u h => ?_, fun i x q e1 e2 => ?_, g.apart, ?_, g.ambS⟩
  · by_cases e : a = p
    · rw [e] at h ⊢
      have h' : upd z.F p o p = some u := h
      rw [upd_same] at h'; rw [← h']; exact hH
    · have h' : upd z.F p o a = some u := h
      rw [upd_ne e] at h'; exact g.sub a u h'
  · refine (g.slots i x q e1 e2).mono (Fz.put_le hz) fun a u e3 ⟨d, e4⟩ h f => ⟨h, fp (ne (.inr ⟨i, d, by rw [← e4]; exact e1, by rw [← e3]; exact e2⟩)) f⟩
  · have := g.amb
    cases e : s.am with
    | none => rw [e] at this; exact this
    | some r =>
      rw [e] at this
      obtain ⟨a, c, e', n, h1, h2, h3, h4⟩ := this
      exact ⟨a, c, e', n, h1, h2, fp (ne (.inl ⟨a, c, e', .inl rfl⟩)) h3, fp (ne (.inl ⟨a, c, e', .inr rfl⟩)) h4⟩
theorem Ext.put {p : Addr} {o : HO} (hz : z.F p = none) (h : own p ∨ H p = none) : Ext own z H (z.put p o) H :=
  ⟨fun _ _ h _ => h, fun _ h => h, Fz.put_le hz, fun a u e => by
    by_cases q : a = p
    · exact .inr (q ▸ h)
    · have e' : upd z.F p o a = some u := e
      rw [upd_ne q] at e'; exact .inl e', fun _ _ h => .inl h⟩
end
end Rf

namespace Rf
open PySem PySem.Spec PyProof.Rows L2

structure Stp (B : Bs) (σ : L2.St) (z : Fz) (H : Hp) (s : S) (z' : Fz) (H' : Hp) (s' : S) : Prop where
  ext : Ext (Own σ s.env z) z H z' H'
  good : Good B z' H' σ s'
  sub : OwnSub (Own σ s.env z) H (Own σ s'.env z')
def VOk (B : Bs) (σ : L2.St) (H0 : Hp) (z : Fz) (H : Hp) (s : S) (v : V) (val : Val) : Prop :=
  ValOk B z H σ (Own σ s.env z) v val ∧ ∀ d p, val = .ow d → v = .ref p → H0 p = none
def ExAt (B : Bs) (z : Fz) (H : Hp) (e : Ex) (cls : Value) (d : Option Addr) : Prop :=
  ∃ (C dx : Addr) (fs : List (Str × V)), cls = .ref C ∧ d = some dx ∧ B.mg e.cls = some (.ref C) ∧ H dx = some (.xd fs) ∧ ∀ f x, e.fs.lookup f = some x → ∃ v, fs.lookup f = some v ∧ Rep B z v x

section
variable (B : Bs) (W : WX)
def ROx (σ : L2.St) (z : Fz) (H : Hp) (s : S) (e : Ex) (am : Option Src) : Prop :=
  ∀ z' H' cls d, Ext (Own σ s.env z) z H z' H' → AmbOk z' H' am → ExAt B z' H' e cls d → W cls d σ H'
def RO (σ : L2.St) (z : Fz) (H : Hp) (s : S) (r : R Val) (Q : VK) : Prop := match r with
  | .ok val s' => ∀ z' H' v, Stp B σ z H s z' H' s' → VOk B σ H z' H' s' v val → Q v H'
  | .ex e am => ROx B W σ z H s e am
  | .bad => False
def ROB (σ : L2.St) (z : Fz) (H : Hp) (s : S) (r : R Bool) (Q : Bool → Hp → Prop) : Prop := match r with
  | .ok b s' => ∀ z' H', Stp B σ z H s z' H' s' → Q b H'
  | .ex e am => ROx B W σ z H s e am
  | .bad => False
def NotOw (p : Addr) (vs : List V) (vals : List Val) : Prop := ∀ (i : Nat) (d : Dt), vals[i]? = some (.ow d) → vs[i]? ≠ some (.ref p)
inductive VOks (σ : L2.St) (H0 : Hp) (z : Fz) (H : Hp) (s : S) : List V → List Val → Prop
  | nil : VOks σ H0 z H s [] []
  | cons {v : V} {val : Val} {vs : List V} {vals : List Val} : VOk B σ H0 z H s v val → (∀ d p, val = .ow d → v = .ref p → NotOw p vs vals) → VOks σ H0 z H s vs vals → VOks σ H0 z H s (v :: vs) (val :: vals)
def ROL (σ : L2.St) (z : Fz) (H : Hp) (s : S) (r : R (List Val)) (Q : List V → Hp → Prop) : Prop := match r with
  | .ok vals s' => ∀ z' H' vs, Stp B σ z H s z' H' s' → VOks B σ H z' H' s' vs vals → Q vs H'
  | .ex e am => ROx B W σ z H s e am
  | .bad => False
def rdE (m : M Val) : TE := fun σ H Q => ∃ z s, Good B z H σ s ∧ RO B W σ z H s (m s) Q
def rdB (m : M Bool) : TT := fun σ H Q => ∃ z s, Good B z H σ s ∧ ROB B W σ z H s (m s) Q
def rdA (m : M (List Val)) : TA := fun σ H Q => ∃ z s, Good B z H σ s ∧ ROL B W σ z H s (m s) Q
end

section
variable {B : Bs} {W : WX} {σ : L2.St} {z z1 z2 : Fz} {H H0 H1 H2 : Hp} {s s1 s2 : S} {v : V} {val : Val} {d : Dt}
theorem Stp.refl (g : Good B z H σ s) : Stp B σ z H s z H s := ⟨.refl _ _ _, g, .refl _ _⟩
theorem Stp.trans (a : Stp B σ z H s z1 H1 s1) (b : Stp B σ z1 H1 s1 z2 H2 s2) : Stp B σ z H s z2 H2 s2 :=
  ⟨a.ext.trans a.sub b.ext, b.good, a.sub.trans a.ext.there b.sub⟩
theorem ROx.step {e : Ex} {am : Option Src} (a : Stp B σ z H s z1 H1 s1) (h : ROx B W σ z H s e am) : ROx B W σ z1 H1 s1 e am :=
  fun z' H' cls d x y w => h z' H' cls d (a.ext.trans a.sub x) y w
theorem RO.step {r : R Val} {Q : VK} (a : Stp B σ z H s z1 H1 s1) (h : RO B W σ z H s r Q) : RO B W σ z1 H1 s1 r Q := by
  cases r with
  | ok val s' => exact fun z' H' v x y => h z' H' v (a.trans x) ⟨y.1, fun d p e1 e2 => a.ext.there p (y.2 d p e1 e2)⟩
  | ex e am => exact ROx.step a h
  | bad => exact h
theorem ROB.step {r : R Bool} {Q : Bool → Hp → Prop} (a : Stp B σ z H s z1 H1 s1) (h : ROB B W σ z H s r Q) : ROB B W σ z1 H1 s1 r Q := by
  cases r with
  | ok val s' => exact fun z' H' x => h z' H' (a.trans x)
  | ex e am => exact ROx.step a h
  | bad => exact h
theorem VOk.step (a : Stp B σ z1 H1 s1 z2 H2 s2) (h : VOk B σ H0 z1 H1 s1 v val) : VOk B σ H0 z2 H2 s2 v val := by
  refine ⟨?_, h.2⟩
  cases val with
  | st d => exact Rep.mono a.ext.le h.1
  | sl i => exact h.1
  | ow d =>
    obtain ⟨p, ho, e, hp, r, f, n⟩ := h.1
    refine ⟨p, ho, e, a.ext.keep p ho hp n, r.mono a.ext.le, ?_, fun q => ?_⟩
    · cases y : z2.F p with
      | none => rfl
      | some u =>
        rcases a.ext.new p u y with y | y | y
        · rw [f] at y; cases y
        · exact absurd y n
        · rw [hp] at y; cases y
    · rcases a.sub p q with y | y
      · exact n y
      · rw [hp] at y; cases y
theorem VOks.step (a : Stp B σ z1 H1 s1 z2 H2 s2) : ∀ {vs : List V} {vals : List Val}, VOks B σ H0 z1 H1 s1 vs vals → VOks B σ H0 z2 H2 s2 vs vals
  | _, _, .nil => .nil
  | _, _, .cons h n r => .cons (h.step a) n (VOks.step a r)
theorem VOk.base (h : VOk B σ H1 z2 H2 s2 v val) (a : ∀ p, H1 p = none → H p = none) : VOk B σ H z2 H2 s2 v val := ⟨h.1, fun d p e1 e2 => a p (h.2 d p e1 e2)⟩
theorem VOks.base (a : ∀ p, H1 p = none → H p = none) : ∀ {vs : List V} {vals : List Val}, VOks B σ H1 z2 H2 s2 vs vals → VOks B σ H z2 H2 s2 vs vals
  | _, _, .nil => .nil
  | _, _, .cons h n r => .cons (h.base a) n (VOks.base a r)
theorem VOks.length : ∀ {vs : List V} {vals : List Val}, VOks B σ H z2 H2 s2 vs vals → vs.length = vals.length
  | _, _, .nil => rfl
  | _, _, .cons _ _ r => by simp [VOks.length r]

theorem RO.bind {r : R Val} {f : Val → S → R Val} {Q : VK} (h : RO B W σ z H s (r.bind f) Q) :
    RO B W σ z H s r (fun v H1 => ∃ z1 s1 val, Stp B σ z H s z1 H1 s1 ∧ VOk B σ H z1 H1 s1 v val ∧ RO B W σ z1 H1 s1 (f val s1) Q) := by
  cases r with
  | ok val s' => exact fun z' H' v x y => ⟨z', s', val, x, y, RO.step x h⟩
  | ex e am => exact h
  | bad => exact h
theorem RO.bindB {r : R Val} {f : Val → S → R Bool} {Q : Bool → Hp → Prop} (h : ROB B W σ z H s (r.bind f) Q) :
    RO B W σ z H s r (fun v H1 => ∃ z1 s1 val, Stp B σ z H s z1 H1 s1 ∧ VOk B σ H z1 H1 s1 v val ∧ ROB B W σ z1 H1 s1 (f val s1) Q) := by
  cases r with
  | ok val s' => exact fun z' H' v x y => ⟨z', s', val, x, y, ROB.step x h⟩
  | ex e am => exact h
  | bad => exact h
theorem ROB.bind {r : R Bool} {f : Bool → S → R Val} {Q : VK} (h : RO B W σ z H s (r.bind f) Q) :
    ROB B W σ z H s r (fun b H1 => ∃ z1 s1, Stp B σ z H s z1 H1 s1 ∧ RO B W σ z1 H1 s1 (f b s1) Q) := by
  cases r with
  | ok val s' => exact fun z' H' x => ⟨z', s', x, RO.step x h⟩
  | ex e am => exact h
  | bad => exact h
theorem ROB.bindB {r : R Bool} {f : Bool → S → R Bool} {Q : Bool → Hp → Prop} (h : ROB B W σ z H s (r.bind f) Q) :
    ROB B W σ z H s r (fun b H1 => ∃ z1 s1, Stp B σ z H s z1 H1 s1 ∧ ROB B W σ z1 H1 s1 (f b s1) Q) := by
  cases r with
  | ok val s' => exact fun z' H' x => ⟨z', s', x, ROB.step x h⟩
  | ex e am => exact h
  | bad => exact h
theorem ROL.bind {r : R (List Val)} {f : List Val → S → R Val} {Q : VK} (h : RO B W σ z H s (r.bind f) Q) :
    ROL B W σ z H s r (fun vs H1 => ∃ z1 s1 vals, Stp B σ z H s z1 H1 s1 ∧ VOks B σ H z1 H1 s1 vs vals ∧ RO B W σ z1 H1 s1 (f vals s1) Q) := by
  cases r with
  | ok val s' => exact fun z' H' v x y => ⟨z', s', val, x, y, RO.step x h⟩
  | ex e am => exact h
  | bad => exact h
theorem RO.mono {r : R Val} {Q Q' : VK} (h : RO B W σ z H s r Q) (q : ∀ v H', Q v H' → Q' v H') : RO B W σ z H s r Q' := by
  cases r with
  | ok val s' => exact fun z' H' v x y => q v H' (h z' H' v x y)
  | ex e am => exact h
  | bad => exact h

def Now (B : Bs) (z : Fz) (H : Hp) (v : V) (d : Dt) : Prop := Rep B z v d ∨ ∃ p ho, v = .ref p ∧ H p = some ho ∧ OwnO B z d ho
def peek (s : S) : Val → Option Dt
  | .st d => some d
  | .ow d => some d
  | .sl i => match s.env[i]? with
    | some (.fz d) => some d
    | some (.ow d) => some d
    | _ => none
theorem peek_now (g : Good B z H σ s) (h : VOk B σ H0 z H s v val) (e : peek s val = some d) : Now B z H v d := by
  cases val with
  | st d' => cases e; exact .inl h.1
  | ow d' =>
    cases e
    obtain ⟨p, ho, e, hp, r, _⟩ := h.1
    exact .inr ⟨p, ho, e, hp, r⟩
  | sl i =>
    have hσ : σ[i]? = some (some v) := h.1
    simp only [peek] at e
    cases q : s.env[i]? with
    | none => rw [q] at e; cases e
    | some x =>
      rw [q] at e
      have hs := g.slots i x _ q hσ
      cases x with
      | no => cases e
      | fz d' =>
        cases e
        obtain ⟨v', e', r⟩ := hs
        cases e'
        exact .inl r
      | ow d' =>
        cases e
        obtain ⟨p, ho, e', hp, r, _⟩ := hs
        cases e'
        exact .inr ⟨p, ho, rfl, hp, r⟩
theorem Now.int {i : Int} (h : Now B z H v (.int i)) : v = .int i := by
  rcases h with h | ⟨_, _, _, _, r⟩
  · exact h.int_inv
  · cases r
theorem Now.str {i : Str} (h : Now B z H v (.str i)) : v = .str i := by
  rcases h with h | ⟨_, _, _, _, r⟩
  · exact h.str_inv
  · cases r
theorem Now.bl {i : Bool} (h : Now B z H v (.bool i)) : v = .bl i := by
  rcases h with h | ⟨_, _, _, _, r⟩
  · exact h.bl_inv
  · cases r
theorem Now.non (h : Now B z H v .none) : v = .non := by
  rcases h with h | ⟨_, _, _, _, r⟩
  · exact h.non_inv
  · cases r
theorem Now.lst {ds : List Dt} (g : ∀ a o, z.F a = some o → H a = some o) (h : Now B z H v (.list ds)) : ∃ a xs, v = .ref a ∧ H a = some (.lst xs) ∧ Reps B z xs ds := by
  rcases h with h | ⟨p, ho, e, hp, r⟩
  · obtain ⟨a, xs, e, h1, h2⟩ := h.lst_inv
    exact ⟨a, xs, e, g _ _ h1, h2⟩
  · cases r with
    | lst r => exact ⟨p, _, e, hp, r⟩
theorem Now.tup {ds : List Dt} (g : ∀ a o, z.F a = some o → H a = some o) (h : Now B z H v (.tuple ds)) : ∃ a xs, v = .ref a ∧ SqT B.K H a xs ∧ Reps B z xs ds := by
  rcases h with h | ⟨p, ho, e, hp, r⟩
  · obtain ⟨a, xs, e, h1, h2⟩ := h.tup_inv
    exact ⟨a, xs, e, sqT_mono g h1, h2⟩
  · cases r
theorem Now.tupP {ds : List Dt} (g : ∀ a o, z.F a = some o → H a = some o) (h : Now B z H v (.tuple ds)) : ∃ a xs, v = .ref a ∧ SqT B.K H a xs ∧ (PlainT B.K H a xs ∨ ds.all pairI = false) ∧ Reps B z xs ds := by
  rcases h with h | ⟨p, ho, e, hp, r⟩
  · obtain ⟨a, xs, e, h1, h2, h3⟩ := h.tupP_inv
    exact ⟨a, xs, e, sqT_mono g h1, h2.imp (fun p => p.mono g) id, h3⟩
  · cases r
theorem Now.dp (g : ∀ a o, z.F a = some o → H a = some o) (h : Now B z H v d) (nd : d.hasDict = false) : Dp B.K H v d := by
  rcases h with h | ⟨p, ho, e, hp, r⟩
  · exact h.dp g nd
  · subst e
    cases r with
    | lst r => exact .lst (.of hp) (r.dp g (by simpa [PyData.hasDict] using nd))
    | dK r => simp [PyData.hasDict] at nd

def frz (s : S) : Val → Option (Dt × S)
  | .st d => some (d, s)
  | .ow d => some (d, s)
  | .sl i => match s.env[i]? with
    | some (.fz d) => some (d, s)
    | some (.ow d) => some (d, { s with env := s.env.set i (.fz d) })
    | _ => none
theorem OwnO.rep {p : Addr} {ho : HO} (r : OwnO B z d ho) (h : z.F p = some ho) : Rep B z (.ref p) d := by
  cases r with
  | lst r => exact .lst h r
  | dK r => exact .dic h r
theorem put_same {p : Addr} {o : HO} : (z.put p o).F p = some o := upd_same
theorem Good.freezeSlot (g : Good B z H σ s) {i : Nat} {p : Addr} {ho : HO} (e : s.env[i]? = some (.ow d)) (eσ : σ[i]? = some (some (.ref p))) (hp : H p = some ho) (r : OwnO B z d ho) (f : z.F p = none) :
    Good B (z.put p ho) H σ { s with env := s.env.set i (.fz d) } := by
  have at_ : SlotAt σ s.env i p := ⟨d, e, eσ⟩
  have nA : ¬ AmbAt z p := g.ambS i p at_
  have hi : i < s.env.length := (List.getElem?_eq_some_iff.mp e).1
  have old : ∀ {j q}, SlotAt σ (s.env.set i (.fz d)) j q → SlotAt σ s.env j q ∧ j ≠ i := fun {j q} ⟨d', e1, e2⟩ => by
    by_cases hj : j = i
    · subst hj
      rw [List.getElem?_set_self hi] at e1; cases e1
    · rw [List.getElem?_set_ne (Ne.symm hj)] at e1
      exact ⟨⟨d', e1, e2⟩, hj⟩
  have fp : ∀ {a}, a ≠ p → z.F a = none → (z.put p ho).F a = none := fun h e => by show upd z.F p ho _ = _; rw [upd_ne h]; exact e
  refine ⟨by simpa using g.len, fun a u h => ?_, fun j x q e1 e2 => ?_, fun j k q h1 h2 => g.apart j k q (old h1).1 (old h2).1, ?_, fun j q h => g.ambS j q (old h).1⟩
  · by_cases q : a = p
    · rw [q] at h ⊢
      have h' : upd z.F p ho p = some u := h
      rw [upd_same] at h'; rw [← h']; exact hp
    · have h' : upd z.F p ho a = some u := h
      rw [upd_ne q] at h'; exact g.sub a u h'
  · have e1' : (s.env.set i (.fz d))[j]? = some x := e1
    by_cases hj : j = i
    · subst hj
      rw [List.getElem?_set_self hi] at e1'; cases e1'
      rw [eσ] at e2; cases e2
      exact ⟨.ref p, rfl, (r.mono (Fz.put_le f)).rep put_same⟩
    · rw [List.getElem?_set_ne (Ne.symm hj)] at e1'
      refine (g.slots j x q e1' e2).mono (Fz.put_le f) fun a u e3 ⟨d', e4⟩ h f' => ⟨h, fp (fun y => hj ?_) f'⟩
      subst y
      exact g.apart j i a ⟨d', by rw [← e4]; exact e1', by rw [← e3]; exact e2⟩ at_
  · have := g.amb
    show AmbOk _ _ s.am
    cases e : s.am with
    | none => rw [e] at this; exact this
    | some r =>
      rw [e] at this
      obtain ⟨a, c, e', n, h1, h2, h3, h4⟩ := this
      exact ⟨a, c, e', n, h1, h2, fp (fun y => nA ⟨a, c, e', .inl y.symm⟩) h3, fp (fun y => nA ⟨a, c, e', .inr y.symm⟩) h4⟩
theorem own_set {i : Nat} {p q : Addr} {o : HO} {d' : Dt} (h : Own σ (s.env.set i (.fz d')) (z.put p o) q) : Own σ s.env z q := by
  rcases h with h | ⟨j, d1, e1, e2⟩
  · exact .inl h
  · refine .inr ⟨j, d1, ?_, e2⟩
    by_cases hj : j = i
    · subst hj
      by_cases hl : j < s.env.length
      · rw [List.getElem?_set_self hl] at e1; cases e1
      · rw [List.getElem?_eq_none (by simpa using Nat.le_of_not_lt hl)] at e1; cases e1
    · rw [List.getElem?_set_ne (Ne.symm hj)] at e1; exact e1
theorem frz_ok {z0 : Fz} {s0 : S} (st : Stp B σ z0 H0 s0 z H s) (h : VOk B σ H0 z H s v val) {s' : S} (e : frz s val = some (d, s')) :
    ∃ z', Stp B σ z0 H0 s0 z' H s' ∧ Rep B z' v d ∧ z.le z' ∧ (∀ q, Own σ s'.env z' q → Own σ s.env z q) ∧
      ∀ q, z.F q = none → ¬ Own σ s.env z q → ((∃ d', val = .ow d') → v ≠ .ref q) → z'.F q = none := by
  have g := st.good
  cases val with
  | st d' => cases e; exact ⟨z, st, h.1, .refl z, fun _ x => x, fun q x _ _ => x⟩
  | ow d' =>
    cases e
    obtain ⟨p, ho, ev, hp, r, f, n⟩ := h.1
    have h0 : H0 p = none := h.2 _ p rfl ev
    subst ev
    refine ⟨z.put p ho, ⟨⟨st.ext.keep, st.ext.there, st.ext.le.trans (Fz.put_le f), fun a u y => ?_, st.ext.newS⟩, g.freeze hp f n, st.sub⟩, (r.mono (Fz.put_le f)).rep put_same, Fz.put_le f, fun _ x => x, fun q x _ w => ?_⟩
    · by_cases q : a = p
      · rw [q]; exact .inr (.inr h0)
      · have y' : upd z.F p ho a = some u := y
        rw [upd_ne q] at y'; exact st.ext.new a u y'
    · have ne : q ≠ p := fun y => w ⟨_, rfl⟩ (by rw [y])
      show upd z.F p ho q = none
      rw [upd_ne ne]; exact x
  | sl i =>
    have hσ : σ[i]? = some (some v) := h.1
    simp only [frz] at e
    cases q : s.env[i]? with
    | none => rw [q] at e; cases e
    | some x =>
      rw [q] at e
      have hs := g.slots i x _ q hσ
      cases x with
      | no => cases e
      | fz d' =>
        cases e
        obtain ⟨v', e', r⟩ := hs
        cases e'
        exact ⟨z, st, r, .refl z, fun _ x => x, fun q x _ _ => x⟩
      | ow d' =>
        cases e
        obtain ⟨p, ho, e', hp, r, f⟩ := hs
        cases e'
        have at_ : SlotAt σ s.env i p := ⟨_, q, hσ⟩
        refine ⟨z.put p ho, ⟨⟨st.ext.keep, st.ext.there, st.ext.le.trans (Fz.put_le f), fun a u y => ?_, st.ext.newS⟩, g.freezeSlot q hσ hp r f, fun a y => st.sub a (own_set y)⟩, (r.mono (Fz.put_le f)).rep put_same, Fz.put_le f, fun a y => own_set y, fun a x y _ => ?_⟩
        · by_cases y2 : a = p
          · rw [y2]; exact .inr (st.sub p (.inr ⟨i, at_⟩))
          · have y' : upd z.F p ho a = some u := y
            rw [upd_ne y2] at y'; exact st.ext.new a u y'
        · have ne : a ≠ p := fun y2 => y (by rw [y2]; exact .inr ⟨i, at_⟩)
          show upd z.F p ho a = none
          rw [upd_ne ne]; exact x
def frzs (s : S) : List Val → Option (List Dt × S)
  | [] => some ([], s)
  | v :: vs => match frz s v with
    | none => none
    | some (d, s1) => match frzs s1 vs with
      | none => none
      | some (ds, s2) => some (d :: ds, s2)
theorem VOks.keep {z' : Fz} {s' : S} (le : z.le z') (ho : ∀ q, Own σ s'.env z' q → Own σ s.env z q) : ∀ {vs : List V} {vals : List Val}, VOks B σ H0 z H s vs vals →
    (∀ q, z.F q = none → ¬ Own σ s.env z q → (∃ (i : Nat) (d : Dt), vals[i]? = some (Val.ow d) ∧ vs[i]? = some (V.ref q)) → z'.F q = none) → VOks B σ H0 z' H s' vs vals
  | _, _, .nil, _ => .nil
  | _, _, .cons (v := v) (val := val) h n r, k => by
    refine .cons ⟨?_, h.2⟩ n (VOks.keep le ho r fun q a b ⟨i, d, e1, e2⟩ => k q a b ⟨i + 1, d, by simpa using e1, by simpa using e2⟩)
    cases val with
    | st d => exact Rep.mono le h.1
    | sl i => exact h.1
    | ow d =>
      obtain ⟨p, o, e, hp, r, f, n⟩ := h.1
      exact ⟨p, o, e, hp, r.mono le, k p f n ⟨0, d, rfl, by rw [e]; rfl⟩, fun y => n (ho p y)⟩
theorem frzs_ok {z0 : Fz} {s0 : S} : ∀ {vals : List Val} {vs : List V} {z : Fz} {s : S} {ds : List Dt} {s' : S}, Stp B σ z0 H0 s0 z H s → VOks B σ H0 z H s vs vals → frzs s vals = some (ds, s') →
    ∃ z', Stp B σ z0 H0 s0 z' H s' ∧ Reps B z' vs ds ∧ z.le z'
  | [], _, z, s, _, _, st, h, e => by
    cases h; cases e
    exact ⟨z, st, .nil, .refl z⟩
  | val :: vals, _, z, s, ds, s', st, h, e => by
    cases h with
    | @cons v _ vs _ h n r =>
      simp only [frzs] at e
      cases q : frz s val with
      | none => rw [q] at e; cases e
      | some x =>
        obtain ⟨d, s1⟩ := x
        rw [q] at e
        obtain ⟨z1, st1, r1, le1, ho, k⟩ := frz_ok st h q
        simp only at e
        cases q2 : frzs s1 vals with
        | none => rw [q2] at e; cases e
        | some x =>
          obtain ⟨ds', s2⟩ := x
          rw [q2] at e
          cases e
          have r' := r.keep (z' := z1) (s' := s1) le1 ho fun q a b ⟨i, d', e1, e2⟩ => k q a b fun ⟨d2, hd⟩ hv => n d2 q hd hv i d' e1 e2
          obtain ⟨z2, st2, r2, le2⟩ := frzs_ok st1 r' q2
          exact ⟨z2, st2, .cons (r1.mono le2) r2, le1.trans le2⟩
end
end Rf

namespace Rf
open PySem PySem.Spec PyProof.Rows L2

abbrev bs (X : Cx) : Bs := ⟨X.K, X.mg⟩
section
variable {X : Cx} {e : Expr} {t t' : TE} {u u' : TT} {a a' : TA} {es : List Expr} {w w' : TS} {st : Stmt} {sts : List Stmt}
theorem pe_weak (h : PE X e t) (q : ∀ σ H Q, t' σ H Q → t σ H Q) : PE X e t' := ⟨fun pins s σ H Q I x => h.run pins s σ H Q I (q _ _ _ x)⟩
theorem pt_weak (h : PT X e u) (q : ∀ σ H Q, u' σ H Q → u σ H Q) : PT X e u' := ⟨fun pins s σ H Q I x => h.run pins s σ H Q I (q _ _ _ x)⟩
theorem pa_weak (h : PA X es a) (q : ∀ σ H Q, a' σ H Q → a σ H Q) : PA X es a' := ⟨fun pos pins s σ H Q I x => h.run pos pins s σ H Q I (q _ _ _ x)⟩
theorem ps_weak (h : PS X st w) (q : ∀ D σ H, w' D σ H → w D σ H) : PS X st w' := ⟨fun pins s σ H D I x => h.run pins s σ H D I (q _ _ _ x)⟩
theorem pss_weak (h : PSs X sts w) (q : ∀ D σ H, w' D σ H → w D σ H) : PSs X sts w' := ⟨fun pins s σ H D I x => h.run pins s σ H D I (q _ _ _ x)⟩
theorem pe_no {W : WX} : PE X e (rdE (bs X) W fun _ => .bad) := ⟨fun _ _ _ _ _ _ ⟨_, _, _, h⟩ => h.elim⟩
end

def Fin (B : Bs) (z : Fz) (H : Hp) (val : Val) (Q : VK) : Prop := match val with
  | .st d => (∀ v, Rep B z v d → Q v H) ∧ ∀ vs ds, d = .tuple ds → Reps B z vs ds → NewT vs H Q
  | .ow d => ∀ p o, OwnO B z d o → H p = none → Q (.ref p) (upd H p o)
  | .sl _ => False
def fin (r : Option Val) (s : S) : R Val := match r with
  | some (.st d) => .ok (.st d) s
  | some (.ow d) => .ok (.ow d) s
  | _ => .bad
section
variable {B : Bs} {W : WX} {σ : L2.St} {z z1 z2 : Fz} {H H0 H1 H2 : Hp} {s s1 s2 : S} {v : V} {val : Val} {d : Dt} {Q : VK}
theorem RO.st (g : Good B z H σ s) (h : RO B W σ z H s (.ok (.st d) s) Q) (r : Rep B z v d) : Q v H := h z H v (.refl g) ⟨r, fun _ _ e => by cases e⟩
theorem RO.tup {ds : List Dt} {vs : List V} (g : Good B z H σ s) (h : RO B W σ z H s (.ok (.st (.tuple ds)) s) Q) (r : Reps B z vs ds) : NewT vs H Q := by
  intro p ob hd hp
  have f : z.F p = none := by
    cases e : z.F p with
    | none => rfl
    | some o => rw [g.sub p o e] at hp; cases hp
  have g1 := g.laid (o := .frz ob (.tup vs)) hp
  have n : ¬ Own σ s.env z p := g.own_new hp
  have g2 := g1.freeze (o := .frz ob (.tup vs)) upd_same f n
  refine h (z.put p (.frz ob (.tup vs))) _ _ ⟨?_, g2, fun q x => .inl x⟩ ⟨.tup (.inl (.inr ⟨ob, put_same⟩)) (.inl (.inl ⟨ob, put_same, hd⟩)) (r.mono (Fz.put_le f)), fun _ _ e => by cases e⟩
  have e1 : Ext (Own σ s.env z) z H z (upd H p (.frz ob (.tup vs))) := .laid hp
  exact ⟨e1.keep, e1.there, Fz.put_le f, fun a u y => by
    by_cases q : a = p
    · rw [q]; exact .inr (.inr hp)
    · have y' : upd z.F p (.frz ob (.tup vs)) a = some u := y
      rw [upd_ne q] at y'; exact .inl y', fun _ _ x => .inl x⟩
theorem RO.ow {o : HO} {p : Addr} (g : Good B z H σ s) (h : RO B W σ z H s (.ok (.ow d) s) Q) (r : OwnO B z d o) (hp : H p = none) : Q (.ref p) (upd H p o) := by
  have f : z.F p = none := by
    cases e : z.F p with
    | none => rfl
    | some o => rw [g.sub p o e] at hp; cases hp
  exact h z _ _ ⟨.laid hp, g.laid hp, fun q x => .inl x⟩ ⟨⟨p, o, rfl, upd_same, r, f, g.own_new hp⟩, fun _ q _ e => by cases e; exact hp⟩
theorem RO.fin {r : Option Val} (g : Good B z H σ s) (h : RO B W σ z H s (fin r s) Q) : ∃ val, r = some val ∧ Fin B z H val Q := by
  cases r with
  | none => exact h.elim
  | some val =>
    cases val with
    | st d => exact ⟨_, rfl, fun v r => h.st g r, fun vs ds e r => by subst e; exact h.tup g r⟩
    | ow d => exact ⟨_, rfl, fun p o r hp => h.ow g r hp⟩
    | sl i => exact h.elim
end

def eC (d : Dt) : M Val := fun s => .ok (.st d) s
def eVar (i : Nat) : M Val := fun s => match s.env[i]? with
  | some (.fz d) => .ok (.st d) s
  | some (.ow _) => .ok (.sl i) s
  | _ => .bad
section
variable {X : Cx} {W : WX} {pos : Pos}
theorem rdC {d : Dt} {v : V} (hr : ∀ z, Rep (bs X) z v d) : ∀ σ H Q, rdE (bs X) W (eC d) σ H Q → tC v σ H Q := fun σ H Q ⟨z, s, g, h⟩ => h.st g (hr z)
theorem e_int {i : Int} {j : Nat} : PE X (.Constant (.int i) j pos) (rdE (bs X) W (eC (.int i))) := pe_weak pe_int (rdC fun _ => .int i)
theorem e_bool {b : Bool} {j : Nat} : PE X (.Constant (.bool b) j pos) (rdE (bs X) W (eC (.bool b))) := pe_weak pe_bl (rdC fun _ => .bl b)
theorem e_none {j : Nat} : PE X (.Constant .none j pos) (rdE (bs X) W (eC .none)) := pe_weak pe_non (rdC fun _ => .non)
theorem e_str {x : Str} {j : Nat} : PE X (.Constant (.str x) j pos) (rdE (bs X) W (eC (.str x))) := pe_weak pe_str (rdC fun _ => .str x)
theorem e_var {i : Nat} {x : Str} (hN : X.N[i]? = some x) (hv : Vis X.env.scope x) (hd : (x == ("__debug__" : Str)) = false) (hcd : (x == ("__classdict__" : Str)) = false) : PE X (.Name x pos) (rdE (bs X) W (eVar i)) := by
  refine pe_weak (pe_var hN hv hd hcd) fun σ H Q ⟨z, s, g, h⟩ => ?_
  unfold eVar at h
  cases q : s.env[i]? with
  | none => rw [q] at h; exact h.elim
  | some x =>
    rw [q] at h
    have hi : i < σ.length := by rw [← g.len]; exact (List.getElem?_eq_some_iff.mp q).1
    have hσ : σ[i]? = some σ[i] := by simp [hi]
    have hs := g.slots i x _ q hσ
    cases x with
    | no => exact h.elim
    | fz d =>
      obtain ⟨v, e, r⟩ := hs
      exact ⟨v, by rw [hσ, e], h.st g r⟩
    | ow d =>
      obtain ⟨p, ho, e, hp, r, f⟩ := hs
      refine ⟨.ref p, by rw [hσ, e], ?_⟩
      exact h z H _ (.refl g) ⟨by show σ[i]? = _; rw [hσ, e], fun _ _ e => by cases e⟩
end

abbrev Sub (z : Fz) (H : Hp) : Prop := ∀ a o, z.F a = some o → H a = some o
def OpFit (B : Bs) (r : R2) (f : Dt → Dt → Option Val) : Prop :=
  ∀ (z : Fz) (H : Hp) (v w : V) (a b : Dt) (val : Val) (Q : VK), Sub z H → Now B z H v a → Now B z H w b → f a b = some val → Fin B z H val Q → r v w H Q
def eBin (f : Dt → Dt → Option Val) (ma mb : M Val) : M Val := fun s => (ma s).bind fun va s1 => (mb s1).bind fun vb s2 => match peek s2 va, peek s2 vb with
  | some a, some b => fin (f a b) s2
  | _, _ => .bad
theorem rd_bin {B : Bs} {W : WX} {r : R2} {f : Dt → Dt → Option Val} {ma mb : M Val} (hf : OpFit B r f) : ∀ σ H Q, rdE B W (eBin f ma mb) σ H Q → tOp r (rdE B W ma) (rdE B W mb) σ H Q := by
  rintro σ H Q ⟨z, s, g, h⟩
  refine ⟨z, s, g, (RO.bind h).mono fun v H1 ⟨z1, s1, va, st1, v1, h1⟩ => ?_⟩
  refine ⟨z1, s1, st1.good, (RO.bind h1).mono fun w H2 ⟨z2, s2, vb, st2, v2, h2⟩ => ?_⟩
  cases e1 : peek s2 va with
  | none => rw [e1] at h2; exact h2.elim
  | some a =>
    cases e2 : peek s2 vb with
    | none => rw [e1, e2] at h2; exact h2.elim
    | some b =>
      rw [e1, e2] at h2
      obtain ⟨val, ev, hv⟩ := h2.fin st2.good
      exact hf z2 H2 v w a b val Q st2.good.sub (peek_now st2.good (v1.step st2) e1) (peek_now st2.good v2 e2) ev hv
theorem e_bin {X : Cx} {W : WX} {a b : Expr} {op : Operator} {pos : Pos} {r : R2} {f : Dt → Dt → Option Val} {ma mb : M Val} (ho : OpR X (binaryOp op) r) (hf : OpFit (bs X) r f) (ha : PE X a (rdE (bs X) W ma)) (hb : PE X b (rdE (bs X) W mb)) :
    PE X (.BinOp a op b pos) (rdE (bs X) W (eBin f ma mb)) := pe_weak (pe_op ho ha hb) (rd_bin hf)
theorem e_cmp {X : Cx} {W : WX} {a b : Expr} {op : CmpOp} {pos : Pos} {r : R2} {f : Dt → Dt → Option Val} {ma mb : M Val} (ho : OpR X (compareOp op) r) (hf : OpFit (bs X) r f) (hm : behindInMarks op b = false) (ha : PE X a (rdE (bs X) W ma)) (hb : PE X b (rdE (bs X) W mb)) :
    PE X (.Compare a [op] [b] pos) (rdE (bs X) W (eBin f ma mb)) := pe_weak (pe_cmpR ho ha hb hm) (rd_bin hf)

theorem Fin.int {B : Bs} {z : Fz} {H : Hp} {i : Int} {Q : VK} (h : Fin B z H (.st (.int i)) Q) : Q (.int i) H := h.1 _ (.int i)
theorem Fin.str {B : Bs} {z : Fz} {H : Hp} {i : Str} {Q : VK} (h : Fin B z H (.st (.str i)) Q) : Q (.str i) H := h.1 _ (.str i)
theorem Fin.bl {B : Bs} {z : Fz} {H : Hp} {i : Bool} {Q : VK} (h : Fin B z H (.st (.bool i)) Q) : Q (.bl i) H := h.1 _ (.bl i)
theorem Fin.lst {B : Bs} {z : Fz} {H : Hp} {ds : List Dt} {Q : VK} (h : Fin B z H (.ow (.list ds)) Q) {vs : List V} (r : Reps B z vs ds) : ∀ p, H p = none → Q (.ref p) (upd H p (.lst vs)) := fun p hp => h p _ (.lst r) hp

def dAdd : Dt → Dt → Option Val
  | .int a, .int b => some (.st (.int (a + b)))
  | .str a, .str b => if a.length + b.length ≤ sizeLine then some (.st (.str (a ++ b))) else none
  | .list a, .list b => if a.length + b.length ≤ sizeLine then some (.ow (.list (a ++ b))) else none
  | .tuple a, .tuple b => if a.length + b.length ≤ sizeLine then some (.st (.tuple (a ++ b))) else none
  | _, _ => none
def rAdd (K : PySem.W.Frag) : R2 := fun x y H Q => (rI0 fun i j => .int (i + j)) x y H Q ∨ (∃ i j, x = .str i ∧ y = .str j ∧ i.length + j.length ≤ sizeLine ∧ Q (.str (i ++ j)) H) ∨ rCat x y H Q ∨ rCatF K x y H Q
theorem op_addAll {X : Cx} : OpR X (binaryOp .Add) (rAdd X.K) := op_add.or (op_add_str.or (op_cat.or op_catF))
theorem fit_add {B : Bs} : OpFit B (rAdd B.K) dAdd := by
  intro z H v w a b val Q sub ha hb hf hv
  cases a with
  | int a =>
    cases b with
    | int b => cases hf; exact .inl ⟨a, b, ha.int, hb.int, hv.int⟩
    | _ => cases hf
  | str a =>
    cases b with
    | str b =>
      simp only [dAdd] at hf
      split at hf
      · rename_i hl; cases hf; exact .inr (.inl ⟨a, b, ha.str, hb.str, hl, hv.str⟩)
      · cases hf
    | _ => cases hf
  | list a =>
    cases b with
    | list b =>
      simp only [dAdd] at hf
      split at hf
      · rename_i hl
        cases hf
        obtain ⟨p, xs, rfl, h1, r1⟩ := ha.lst sub
        obtain ⟨q, ys, rfl, h2, r2⟩ := hb.lst sub
        exact .inr (.inr (.inl ⟨p, q, xs, ys, rfl, rfl, h1, h2, by rw [r1.length, r2.length]; exact hl, hv.lst (r1.append r2)⟩))
      · cases hf
    | _ => cases hf
  | tuple a =>
    cases b with
    | tuple b =>
      simp only [dAdd] at hf
      split at hf
      · rename_i hl
        cases hf
        obtain ⟨p, xs, rfl, h1, r1⟩ := ha.tup sub
        obtain ⟨q, ys, rfl, h2, r2⟩ := hb.tup sub
        have ra : Rep B z (.ref p) (.tuple a) := by
          rcases ha with h | ⟨_, _, _, _, h⟩
          · exact h
          · cases h
        have rb : Rep B z (.ref q) (.tuple b) := by
          rcases hb with h | ⟨_, _, _, _, h⟩
          · exact h
          · cases h
        refine .inr (.inr (.inr ⟨p, q, xs, ys, rfl, rfl, h1, h2, by rw [r1.length, r2.length]; exact hl, fun e => ?_, fun e => ?_, fun _ _ => hv.2 _ _ rfl (r1.append r2)⟩))
        · subst e
          cases r1
          exact hv.1 _ rb
        · subst e
          cases r2
          refine hv.1 _ ?_
          rw [List.append_nil]
          exact ra
      · cases hf
    | _ => cases hf
  | _ => cases hf
def dSub : Dt → Dt → Option Val
  | .int a, .int b => some (.st (.int (a - b)))
  | _, _ => none
theorem fit_int0 {B : Bs} {g : Int → Int → Int} {f : Dt → Dt → Option Val} (h1 : ∀ a b val, f a b = some val → ∃ i j, a = .int i ∧ b = .int j ∧ val = .st (.int (g i j))) : OpFit B (rI0 fun i j => .int (g i j)) f := by
  intro z H v w a b val Q sub ha hb hf hv
  obtain ⟨i, j, rfl, rfl, rfl⟩ := h1 a b val hf
  exact ⟨i, j, ha.int, hb.int, hv.int⟩
theorem fit_intC {B : Bs} {C : Int → Int → Prop} {g : Int → Int → Int} {f : Dt → Dt → Option Val} (h1 : ∀ a b val, f a b = some val → ∃ i j, a = .int i ∧ b = .int j ∧ C i j ∧ val = .st (.int (g i j))) : OpFit B (rI C fun i j => .int (g i j)) f := by
  intro z H v w a b val Q sub ha hb hf hv
  obtain ⟨i, j, rfl, rfl, hc, rfl⟩ := h1 a b val hf
  exact ⟨i, j, ha.int, hb.int, hc, hv.int⟩
theorem fit_sub {B : Bs} : OpFit B (rI0 fun i j => .int (i - j)) dSub := fit_int0 fun a b val h => by
  cases a <;> cases b <;> first | (cases h; exact ⟨_, _, rfl, rfl, rfl⟩) | cases h
def MulOk (i j : Int) : Prop := CMul i j ∨ CMulW i j
noncomputable instance (i j : Int) : Decidable (MulOk i j) := Classical.propDecidable _
theorem op_mulAll {X : Cx} : OpR X (binaryOp .Mult) (rI MulOk fun i j => .int (i * j)) := opI fun _ _ _ _ _ _ _ hc q => mul_int q (by
  rcases hc with h | h
  · exact h.ok
  · exact h.ok)
def RepOk (n : Nat) (k : Int) : Prop := -(2 ^ 63) ≤ k ∧ k < 2 ^ 63 ∧ n * k.toNat ≤ sizeLine
noncomputable instance (n : Nat) (k : Int) : Decidable (RepOk n k) := Classical.propDecidable _
noncomputable def dMul : Dt → Dt → Option Val
  | .int a, .int b => if MulOk a b then some (.st (.int (a * b))) else none
  | .list a, .int k => if RepOk a.length k then some (.ow (.list (List.replicate k.toNat a).flatten)) else none
  | .tuple a, .int k => if a ≠ [] ∧ 2 ≤ k ∧ k ≤ 1000 ∧ a.length ≤ 1000 then some (.st (.tuple (List.replicate k.toNat a).flatten)) else none
  | _, _ => none
def rMulA (K : PySem.W.Frag) : R2 := fun x y H Q => (rI MulOk fun i j => .int (i * j)) x y H Q ∨ rRep x y H Q ∨ rRepF K x y H Q
theorem op_mulA {X : Cx} : OpR X (binaryOp .Mult) (rMulA X.K) := op_mulAll.or (op_rep.or op_repF)
theorem Reps.flat {B : Bs} {z : Fz} {vs : List V} {ds : List Dt} (r : Reps B z vs ds) : ∀ n, Reps B z (List.replicate n vs).flatten (List.replicate n ds).flatten
  | 0 => .nil
  | n + 1 => by
    rw [List.replicate_succ, List.replicate_succ, List.flatten_cons, List.flatten_cons]
    exact r.append (Reps.flat r n)
theorem fit_mul {B : Bs} : OpFit B (rMulA B.K) dMul := by
  intro z H v w a b val Q sub ha hb hf hv
  cases a with
  | int a =>
    cases b with
    | int b =>
      simp only [dMul] at hf
      split at hf
      · rename_i hl; cases hf; exact .inl ⟨a, b, ha.int, hb.int, hl, hv.int⟩
      · cases hf
    | _ => cases hf
  | list a =>
    cases b with
    | int b =>
      simp only [dMul] at hf
      split at hf
      · rename_i hl
        cases hf
        obtain ⟨p, xs, rfl, h1, r1⟩ := ha.lst sub
        exact .inr (.inl ⟨p, b, xs, rfl, hb.int, h1, hl.1, hl.2.1, by rw [r1.length]; exact hl.2.2, hv.lst (r1.flat _)⟩)
      · cases hf
    | _ => cases hf
  | tuple a =>
    cases b with
    | int b =>
      simp only [dMul] at hf
      split at hf
      · rename_i hl
        cases hf
        obtain ⟨p, xs, rfl, h1, r1⟩ := ha.tup sub
        refine .inr (.inr ⟨p, b, xs, rfl, hb.int, h1, fun e => ?_, hl.2.1, hl.2.2.1, by rw [r1.length]; exact hl.2.2.2, hv.2 _ _ rfl (r1.flat _)⟩)
        subst e
        cases r1
        exact hl.1 rfl
      · cases hf
    | _ => cases hf
  | _ => cases hf
def DivOk (j : Int) : Prop := 0 < j ∧ (j < 1073741824 ∨ j.natAbs.log2 < 9000)
noncomputable instance (j : Int) : Decidable (DivOk j) := Classical.propDecidable _
theorem op_divA {X : Cx} : OpR X (binaryOp .FloorDiv) (rI (fun _ j => DivOk j) fun i j => .int (i / j)) := opI fun i j _ _ _ _ _ hc q => by
  have h1 : (0 : Int) < j := hc.1
  refine floordiv_int (by omega) (by rw [Int.fdiv_eq_ediv_of_nonneg i (by omega)]; exact q) ?_
  rcases hc.2 with h | h
  · exact .inl (PyProof.noPylong_small (by omega))
  · exact .inl (PyProof.noPylong_of_log2 h)
noncomputable def dDiv : Dt → Dt → Option Val
  | .int a, .int b => if DivOk b then some (.st (.int (a / b))) else none
  | _, _ => none
theorem fit_div {B : Bs} : OpFit B (rI (fun _ j => DivOk j) fun i j => .int (i / j)) dDiv := fit_intC fun a b val h => by
  cases a <;> cases b <;> simp only [dDiv] at h <;> first | cases h | (split at h <;> first | (rename_i hc; cases h; exact ⟨_, _, rfl, rfl, hc, rfl⟩) | cases h)
def dMod : Dt → Dt → Option Val
  | .int a, .int b => if 0 < b then some (.st (.int (a % b))) else none
  | _, _ => none
theorem fit_mod {B : Bs} : OpFit B (rI (fun _ j => 0 < j) fun i j => .int (i % j)) dMod := fit_intC fun a b val h => by
  cases a <;> cases b <;> simp only [dMod] at h <;> first | cases h | (split at h <;> first | (rename_i hc; cases h; exact ⟨_, _, rfl, rfl, hc, rfl⟩) | cases h)
def PowOk (i j : Int) : Prop := 0 ≤ j ∧ j ≤ 1000000 ∧ i.natAbs < 2 ^ 64
noncomputable instance (i j : Int) : Decidable (PowOk i j) := Classical.propDecidable _
noncomputable def dPow : Dt → Dt → Option Val
  | .int a, .int b => if PowOk a b then some (.st (.int (a ^ b.toNat))) else none
  | _, _ => none
theorem fit_pow {B : Bs} : OpFit B (rI CPow fun i j => .int (i ^ j.toNat)) dPow := fit_intC fun a b val h => by
  cases a <;> cases b <;> simp only [dPow] at h <;> first | cases h | (split at h <;> first | (rename_i hc; cases h; exact ⟨_, _, rfl, rfl, hc, rfl⟩) | cases h)

def dLt : Dt → Dt → Option Val
  | .int a, .int b => some (.st (.bool (decide (a < b))))
  | _, _ => none
def dLe : Dt → Dt → Option Val
  | .int a, .int b => some (.st (.bool (decide (a ≤ b))))
  | _, _ => none
def dGt : Dt → Dt → Option Val
  | .int a, .int b => some (.st (.bool (decide (b < a))))
  | _, _ => none
def dGe : Dt → Dt → Option Val
  | .int a, .int b => some (.st (.bool (decide (b ≤ a))))
  | _, _ => none
theorem fit_intB {B : Bs} {g : Int → Int → Bool} {f : Dt → Dt → Option Val} (h1 : ∀ a b val, f a b = some val → ∃ i j, a = .int i ∧ b = .int j ∧ val = .st (.bool (g i j))) : OpFit B (rI0 fun i j => .bl (g i j)) f := by
  intro z H v w a b val Q sub ha hb hf hv
  obtain ⟨i, j, rfl, rfl, rfl⟩ := h1 a b val hf
  exact ⟨i, j, ha.int, hb.int, hv.bl⟩
theorem fit_lt {B : Bs} : OpFit B (rI0 fun i j => .bl (decide (i < j))) dLt := fit_intB fun a b val h => by
  cases a <;> cases b <;> first | (cases h; exact ⟨_, _, rfl, rfl, rfl⟩) | cases h
theorem fit_le {B : Bs} : OpFit B (rI0 fun i j => .bl (decide (i ≤ j))) dLe := fit_intB fun a b val h => by
  cases a <;> cases b <;> first | (cases h; exact ⟨_, _, rfl, rfl, rfl⟩) | cases h
theorem fit_gt {B : Bs} : OpFit B (rI0 fun i j => .bl (decide (j < i))) dGt := fit_intB fun a b val h => by
  cases a <;> cases b <;> first | (cases h; exact ⟨_, _, rfl, rfl, rfl⟩) | cases h
theorem fit_ge {B : Bs} : OpFit B (rI0 fun i j => .bl (decide (j ≤ i))) dGe := fit_intB fun a b val h => by
  cases a <;> cases b <;> first | (cases h; exact ⟨_, _, rfl, rfl, rfl⟩) | cases h
def dEq : Dt → Dt → Option Val
  | .str x, .str y => some (.st (.bool (decide (x = y))))
  | a, b => if SeqAt.shaped a = true ∧ SeqAt.shaped b = true then some (.st (.bool (PyData.eqv a b))) else none
def dNe : Dt → Dt → Option Val
  | .str x, .str y => some (.st (.bool (!decide (x = y))))
  | a, b => if SeqAt.shaped a = true ∧ SeqAt.shaped b = true then some (.st (.bool (!PyData.eqv a b))) else none
theorem shaped_nd {d : Dt} (h : SeqAt.shaped d = true) : d.hasDict = false := by
  unfold SeqAt.shaped at h
  rw [Bool.and_eq_true] at h
  exact PyData.hasDict_of_canLay d h.1
theorem fit_eq {B : Bs} : OpFit B (fun x y H Q => rEq x y H Q ∨ rEqD B.K x y H Q) dEq := by
  intro z H v w a b val Q sub ha hb hf hv
  unfold dEq at hf
  split at hf
  · rename_i x y
    cases hf
    cases ha.str; cases hb.str
    left
    refine ⟨rfl, ?_⟩
    have e : decide (V.str x = V.str y) = decide (x = y) := by
      by_cases h : x = y
      · subst h; simp
      · have : ¬ V.str x = V.str y := fun e => h (V.str.inj e)
        simp [h]
    rw [e]
    exact hv.bl
  · split at hf
    · rename_i h
      cases hf
      exact .inr ⟨a, b, ha.dp sub (shaped_nd h.1), hb.dp sub (shaped_nd h.2), h.1, h.2, hv.bl⟩
    · cases hf
theorem fit_ne {B : Bs} : OpFit B (fun x y H Q => rNe x y H Q ∨ rNeD B.K x y H Q) dNe := by
  intro z H v w a b val Q sub ha hb hf hv
  unfold dNe at hf
  split at hf
  · rename_i x y
    cases hf
    cases ha.str; cases hb.str
    left
    refine ⟨rfl, ?_⟩
    have e : decide (V.str x = V.str y) = decide (x = y) := by
      by_cases h : x = y
      · subst h; simp
      · have : ¬ V.str x = V.str y := fun e => h (V.str.inj e)
        simp [h]
    rw [e]
    exact hv.bl
  · split at hf
    · rename_i h
      cases hf
      exact .inr ⟨a, b, ha.dp sub (shaped_nd h.1), hb.dp sub (shaped_nd h.2), h.1, h.2, hv.bl⟩
    · cases hf
theorem op_eqA {X : Cx} (hu : X.A.units + 64 < cLine) : OpR X (compareOp .Eq) (fun x y H Q => rEq x y H Q ∨ rEqD X.K x y H Q) := L2.op_eq.or (op_eqD hu)
theorem op_neA {X : Cx} (hu : X.A.units + 64 < cLine) : OpR X (compareOp .NotEq) (fun x y H Q => rNe x y H Q ∨ rNeD X.K x y H Q) := L2.op_ne.or (op_neD hu)
def isNone : Dt → Bool
  | .none => true
  | _ => false
theorem Now.non_iff {B : Bs} {z : Fz} {H : Hp} {v : V} {d : Dt} (h : Now B z H v d) : decide (v = .non) = isNone d := by
  rcases h with h | ⟨p, ho, rfl, hp, r⟩
  · cases h <;> simp [isNone]
  · cases r <;> simp [isNone]
def dIs (a b : Dt) : Option Val := if isNone b then some (.st (.bool (isNone a))) else none
def dIsNot (a b : Dt) : Option Val := if isNone b then some (.st (.bool (!isNone a))) else none
theorem fit_is {B : Bs} : OpFit B (fun x y H Q => y = .non ∧ Q (.bl (decide (x = .non))) H) dIs := by
  intro z H v w a b val Q sub ha hb hf hv
  unfold dIs at hf
  split at hf
  · rename_i h
    cases hf
    refine ⟨?_, by rw [ha.non_iff]; exact hv.bl⟩
    have := hb.non_iff
    rw [h] at this
    exact of_decide_eq_true this
  · cases hf
theorem fit_isnot {B : Bs} : OpFit B (fun x y H Q => y = .non ∧ Q (.bl (!decide (x = .non))) H) dIsNot := by
  intro z H v w a b val Q sub ha hb hf hv
  unfold dIsNot at hf
  split at hf
  · rename_i h
    cases hf
    refine ⟨?_, by rw [ha.non_iff]; exact hv.bl⟩
    have := hb.non_iff
    rw [h] at this
    exact of_decide_eq_true this
  · cases hf
end Rf

namespace Rf
open PySem PySem.Spec PyProof.Rows L2

def tst (m : M Val) : M Bool := fun s => (m s).bind fun v s1 => match peek s1 v with
  | some (.bool b) => .ok b s1
  | _ => .bad
section
variable {X : Cx} {W : WX} {e : Expr} {pos : Pos}
theorem rd_tst {B : Bs} {m : M Val} : ∀ σ H Q, rdB B W (tst m) σ H Q → rdE B W m σ H fun x H' => ∃ k, x = .bl k ∧ Q k H' := by
  rintro σ H Q ⟨z, s, g, h⟩
  refine ⟨z, s, g, (RO.bindB h).mono fun v H1 ⟨z1, s1, va, st1, v1, h1⟩ => ?_⟩
  cases e1 : peek s1 va with
  | none => rw [e1] at h1; exact h1.elim
  | some d =>
    rw [e1] at h1
    cases d with
    | bool b => exact ⟨b, (peek_now st1.good v1 e1).bl, h1 z1 H1 (.refl st1.good)⟩
    | _ => exact h1.elim
theorem b_val {m : M Val} (h : PE X e (rdE (bs X) W m)) (he : ∀ whole, isTrue e X.env whole = (do let v ← whole; standAt e.pos; holding [v] (truthy v))) : PT X e (rdB (bs X) W (tst m)) :=
  pt_weak (pt_val h he) rd_tst
theorem b_cmp {a b : Expr} {op : CmpOp} {r : R2} {f : Dt → Dt → Option Val} {ma mb : M Val} (ho : OpR X (compareOp op) r) (hf : OpFit (bs X) r f) (hm : behindInMarks op b = false) (ha : PE X a (rdE (bs X) W ma)) (hb : PE X b (rdE (bs X) W mb)) :
    PT X (.Compare a [op] [b] pos) (rdB (bs X) W (tst (eBin f ma mb))) := pt_weak (pt_cmpR ho ha hb hm) fun σ H Q h => rd_bin hf σ H _ (rd_tst σ H Q h)

def eChain (f f' : Dt → Dt → Option Val) (ma mb mc : M Val) : M Val := fun s => (ma s).bind fun va s1 => (mb s1).bind fun vb s2 => match peek s2 va, peek s2 vb with
  | some a, some b => match f a b with
    | some (.st (.bool true)) => (mc s2).bind fun vc s3 => match peek s3 vb, peek s3 vc with
      | some b', some c => fin (f' b' c) s3
      | _, _ => .bad
    | some (.st (.bool false)) => .ok (.st (.bool false)) s2
    | _ => .bad
  | _, _ => .bad
theorem rd_chain {B : Bs} {W : WX} {r r' : R2} {f f' : Dt → Dt → Option Val} {ma mb mc : M Val} (hf : OpFit B r f) (hf' : OpFit B r' f') : ∀ σ H Q, rdE B W (eChain f f' ma mb mc) σ H Q → tChain r r' (rdE B W ma) (rdE B W mb) (rdE B W mc) σ H Q := by
  rintro σ H Q ⟨z, s, g, h⟩
  refine ⟨z, s, g, (RO.bind h).mono fun v H1 ⟨z1, s1, va, st1, v1, h1⟩ => ?_⟩
  refine ⟨z1, s1, st1.good, (RO.bind h1).mono fun w H2 ⟨z2, s2, vb, st2, v2, h2⟩ => ?_⟩
  cases e1 : peek s2 va with
  | none => rw [e1] at h2; exact h2.elim
  | some a =>
    cases e2 : peek s2 vb with
    | none => rw [e1, e2] at h2; exact h2.elim
    | some b =>
      rw [e1, e2] at h2
      simp only at h2
      have na := peek_now st2.good (v1.step st2) e1
      have nb := peek_now st2.good v2 e2
      cases ev : f a b with
      | none => rw [ev] at h2; exact h2.elim
      | some val =>
        rw [ev] at h2
        cases val with
        | st d =>
          cases d with
          | bool k =>
            refine hf z2 H2 v w a b _ _ st2.good.sub na nb ev ⟨fun u ru => ?_, fun vs ds e => by cases e⟩
            refine ⟨k, ru.bl_inv, ?_⟩
            cases k with
            | false => rw [if_neg Bool.false_ne_true]; exact RO.st st2.good h2 (.bl false)
            | true =>
              rw [if_pos rfl]
              refine ⟨z2, s2, st2.good, (RO.bind h2).mono fun y H3 ⟨z3, s3, vc, st3, v3, h3⟩ => ?_⟩
              cases e3 : peek s3 vb with
              | none => rw [e3] at h3; exact h3.elim
              | some b' =>
                cases e4 : peek s3 vc with
                | none => rw [e3, e4] at h3; exact h3.elim
                | some c =>
                  rw [e3, e4] at h3
                  obtain ⟨val, ev, hv⟩ := h3.fin st3.good
                  exact hf' z3 H3 w y b' c val Q st3.good.sub (peek_now st3.good (v2.step st3) e3) (peek_now st3.good v3 e4) ev hv
          | _ => exact h2.elim
        | _ => exact h2.elim
theorem e_chain {a b c : Expr} {op op' : CmpOp} {r r' : R2} {f f' : Dt → Dt → Option Val} {ma mb mc : M Val} (ho : OpR X (compareOp op) r) (ho' : OpR X (compareOp op') r') (hf : OpFit (bs X) r f) (hf' : OpFit (bs X) r' f') (ha : PE X a (rdE (bs X) W ma)) (hb : PE X b (rdE (bs X) W mb)) (hc : PE X c (rdE (bs X) W mc))
    (hm : lastMarks [op, op'] [b, c] = false) : PE X (.Compare a [op, op'] [b, c] pos) (rdE (bs X) W (eChain f f' ma mb mc)) := pe_weak (pe_chain ho ho' ha hb hc hm) (rd_chain hf hf')
theorem b_chain {a b c : Expr} {op op' : CmpOp} {r r' : R2} {f f' : Dt → Dt → Option Val} {ma mb mc : M Val} (ho : OpR X (compareOp op) r) (ho' : OpR X (compareOp op') r') (hf : OpFit (bs X) r f) (hf' : OpFit (bs X) r' f') (ha : PE X a (rdE (bs X) W ma)) (hb : PE X b (rdE (bs X) W mb)) (hc : PE X c (rdE (bs X) W mc))
    (hm : lastMarks [op, op'] [b, c] = false) : PT X (.Compare a [op, op'] [b, c] pos) (rdB (bs X) W (tst (eChain f f' ma mb mc))) := pt_weak (pt_chain ho ho' ha hb hc hm) fun σ H Q h => rd_chain hf hf' σ H _ (rd_tst σ H Q h)

def bAnd (m n : M Bool) : M Bool := fun s => (m s).bind fun b s1 => if b then n s1 else .ok false s1
def bOr (m n : M Bool) : M Bool := fun s => (m s).bind fun b s1 => if b then .ok true s1 else n s1
def bNot (m : M Bool) : M Bool := fun s => (m s).bind fun b s1 => .ok (!b) s1
def eAnd (m n : M Val) : M Val := fun s => (tst m s).bind fun b s1 => if b then n s1 else .ok (.st (.bool false)) s1
def eOr (m n : M Val) : M Val := fun s => (tst m s).bind fun b s1 => if b then .ok (.st (.bool true)) s1 else n s1
def eNot (m : M Val) : M Val := fun s => (tst m s).bind fun b s1 => .ok (.st (.bool (!b))) s1
theorem ROB.mono {B : Bs} {σ : L2.St} {z : Fz} {H : Hp} {s : S} {r : R Bool} {Q Q' : Bool → Hp → Prop} (h : ROB B W σ z H s r Q) (q : ∀ v H', Q v H' → Q' v H') : ROB B W σ z H s r Q' := by
  cases r with
  | ok val s' => exact fun z' H' x => q val H' (h z' H' x)
  | ex e am => exact h
  | bad => exact h
theorem b_and {a b : Expr} {rest : List Expr} {ma mb : M Bool} (ha : PT X a (rdB (bs X) W ma)) (hb : PW X (.BoolOp .And (b :: rest) pos) (rdB (bs X) W mb)) : PW X (.BoolOp .And (a :: b :: rest) pos) (rdB (bs X) W (bAnd ma mb)) := by
  refine ⟨fun wh pins s σ H Q I ⟨z, u, g, h⟩ => (pw_and ha hb).run wh pins s σ H Q I ⟨z, u, g, (ROB.bindB h).mono fun k H1 ⟨z1, s1, st1, h1⟩ => ?_⟩⟩
  cases k with
  | true => exact ⟨z1, s1, st1.good, h1⟩
  | false => exact h1 z1 H1 (.refl st1.good)
theorem b_or {a b : Expr} {rest : List Expr} {ma mb : M Bool} (ha : PT X a (rdB (bs X) W ma)) (hb : PW X (.BoolOp .Or (b :: rest) pos) (rdB (bs X) W mb)) : PW X (.BoolOp .Or (a :: b :: rest) pos) (rdB (bs X) W (bOr ma mb)) := by
  refine ⟨fun wh pins s σ H Q I ⟨z, u, g, h⟩ => (pw_or ha hb).run wh pins s σ H Q I ⟨z, u, g, (ROB.bindB h).mono fun k H1 ⟨z1, s1, st1, h1⟩ => ?_⟩⟩
  cases k with
  | false => exact ⟨z1, s1, st1.good, h1⟩
  | true => exact h1 z1 H1 (.refl st1.good)
theorem b_not {a : Expr} {ma : M Bool} (ha : PT X a (rdB (bs X) W ma)) : PT X (.UnaryOp .Not a pos) (rdB (bs X) W (bNot ma)) :=
  pt_weak (pt_not ha) fun σ H Q ⟨z, u, g, h⟩ => ⟨z, u, g, (ROB.bindB h).mono fun k H1 ⟨z1, s1, st1, h1⟩ => h1 z1 H1 (.refl st1.good)⟩
theorem rd_tst2 {B : Bs} {m : M Val} {f : Bool → S → R Val} : ∀ σ H Q, rdE B W (fun s => (tst m s).bind f) σ H Q → rdE B W m σ H fun x H' => ∃ k, x = .bl k ∧ rdE B W (f k) σ H' Q := by
  rintro σ H Q ⟨z, s, g, h⟩
  exact rd_tst σ H (fun k H' => rdE B W (f k) σ H' Q) ⟨z, s, g, (ROB.bind h).mono fun k H1 ⟨z1, s1, st1, h1⟩ => ⟨z1, s1, st1.good, h1⟩⟩
theorem rdE_imp {B : Bs} {m : M Val} {σ : L2.St} {H : Hp} {Q Q' : VK} (h : rdE B W m σ H Q) (q : ∀ v H', Q v H' → Q' v H') : rdE B W m σ H Q' := by
  obtain ⟨z, s, g, h⟩ := h
  exact ⟨z, s, g, h.mono q⟩
theorem rdE_ret {B : Bs} {d : Dt} {v : V} {σ : L2.St} {H : Hp} {Q : VK} (h : rdE B W (fun s => .ok (.st d) s) σ H Q) (r : ∀ z, Rep B z v d) : Q v H := by
  obtain ⟨z, s, g, h⟩ := h
  exact RO.st g h (r z)
theorem e_and {a b : Expr} {rest : List Expr} {ma mb : M Val} (ha : PE X a (rdE (bs X) W ma)) (hb : PE X (.BoolOp .And (b :: rest) pos) (rdE (bs X) W mb)) : PE X (.BoolOp .And (a :: b :: rest) pos) (rdE (bs X) W (eAnd ma mb)) :=
  pe_weak (pe_and ha hb) fun σ H Q h => rdE_imp (rd_tst2 σ H Q h) fun v H1 ⟨k, e, h1⟩ => ⟨k, e, by
    cases k with
    | true => exact h1
    | false => exact rdE_ret h1 fun z => .bl false⟩
theorem e_or {a b : Expr} {rest : List Expr} {ma mb : M Val} (ha : PE X a (rdE (bs X) W ma)) (hb : PE X (.BoolOp .Or (b :: rest) pos) (rdE (bs X) W mb)) : PE X (.BoolOp .Or (a :: b :: rest) pos) (rdE (bs X) W (eOr ma mb)) :=
  pe_weak (pe_or ha hb) fun σ H Q h => rdE_imp (rd_tst2 σ H Q h) fun v H1 ⟨k, e, h1⟩ => ⟨k, e, by
    cases k with
    | true => exact rdE_ret h1 fun z => .bl true
    | false => exact h1⟩
theorem e_not {a : Expr} {ma : M Val} (ha : PE X a (rdE (bs X) W ma)) : PE X (.UnaryOp .Not a pos) (rdE (bs X) W (eNot ma)) :=
  pe_weak (pe_not ha) fun σ H Q h => rdE_imp (rd_tst2 σ H Q h) fun v H1 ⟨k, e, h1⟩ => ⟨k, e, rdE_ret h1 fun z => .bl _⟩

def eIf (c : M Bool) (ma mb : M Val) : M Val := fun s => (c s).bind fun b s1 => if b then ma s1 else mb s1
def bIf (c ma mb : M Bool) : M Bool := fun s => (c s).bind fun b s1 => if b then ma s1 else mb s1
theorem e_if {c a b : Expr} {mc : M Bool} {ma mb : M Val} (hc : PT X c (rdB (bs X) W mc)) (ha : PE X a (rdE (bs X) W ma)) (hb : PE X b (rdE (bs X) W mb)) : PE X (.IfExp c a b pos) (rdE (bs X) W (eIf mc ma mb)) :=
  pe_weak (pe_ifExp hc ha hb) fun σ H Q ⟨z, u, g, h⟩ => ⟨z, u, g, (ROB.bind h).mono fun k H1 ⟨z1, s1, st1, h1⟩ => by
    cases k with
    | true => exact ⟨z1, s1, st1.good, h1⟩
    | false => exact ⟨z1, s1, st1.good, h1⟩⟩
theorem b_if {c a b : Expr} {mc ma mb : M Bool} (hc : PT X c (rdB (bs X) W mc)) (ha : PT X a (rdB (bs X) W ma)) (hb : PT X b (rdB (bs X) W mb)) : PT X (.IfExp c a b pos) (rdB (bs X) W (bIf mc ma mb)) := by
  refine ⟨fun pins s σ H Q I ⟨z, u, g, h⟩ => ?_⟩
  refine isTrue_IfExp (thn (hc.run pins s σ H _ I ⟨z, u, g, ROB.bindB h⟩) fun k s1 ⟨H1, I1, z1, s1', st1, h1⟩ => ?_)
  cases k with
  | true => exact ha.run pins s1 σ H1 Q I1 ⟨z1, s1', st1.good, h1⟩
  | false => exact hb.run pins s1 σ H1 Q I1 ⟨z1, s1', st1.good, h1⟩

def UnFit (B : Bs) (r : V → Hp → VK → Prop) (f : Dt → Option Val) : Prop := ∀ (z : Fz) (H : Hp) (v : V) (a : Dt) (val : Val) (Q : VK), Sub z H → Now B z H v a → f a = some val → Fin B z H val Q → r v H Q
def eUn (f : Dt → Option Val) (ma : M Val) : M Val := fun s => (ma s).bind fun va s1 => match peek s1 va with
  | some a => fin (f a) s1
  | none => .bad
theorem rd_un {B : Bs} {r : V → Hp → VK → Prop} {f : Dt → Option Val} {ma : M Val} (hf : UnFit B r f) : ∀ σ H Q, rdE B W (eUn f ma) σ H Q → rdE B W ma σ H fun x H1 => r x H1 Q := by
  rintro σ H Q ⟨z, s, g, h⟩
  refine ⟨z, s, g, (RO.bind h).mono fun v H1 ⟨z1, s1, va, st1, v1, h1⟩ => ?_⟩
  cases e1 : peek s1 va with
  | none => rw [e1] at h1; exact h1.elim
  | some a =>
    rw [e1] at h1
    obtain ⟨val, ev, hv⟩ := h1.fin st1.good
    exact hf z1 H1 v a val Q st1.good.sub (peek_now st1.good v1 e1) ev hv
def dNeg : Dt → Option Val
  | .int a => some (.st (.int (-a)))
  | _ => none
theorem fit_neg {B : Bs} : UnFit B (rU fun i => .int (-i)) dNeg := by
  intro z H v a val Q sub ha hf hv
  cases a with
  | int a => cases hf; exact ⟨a, ha.int, hv.int⟩
  | _ => cases hf
theorem e_neg {a : Expr} {ma : M Val} (ha : PE X a (rdE (bs X) W ma)) : PE X (.UnaryOp .USub a pos) (rdE (bs X) W (eUn dNeg ma)) := pe_weak (pe_un un_neg ha) (rd_un fit_neg)

theorem ixN_lt {n : Nat} {i : Int} {j : Nat} (h : ixN n i = some j) : j < n := (ixN_seq h).2.1
def dIx : Dt → Dt → Option Val
  | .list a, .int i => (atI a i).map .st
  | .tuple a, .int i => (atI a i).map .st
  | .str a, .int i => if a.length ≤ sizeLine then (atI a.cps.toList i).map fun c => .st (.str ⟨#[c]⟩) else none
  | _, _ => none
theorem atI_reps {B : Bs} {z : Fz} {vs : List V} {ds : List Dt} (r : Reps B z vs ds) {i : Int} {d : Dt} (h : atI ds i = some d) : ∃ v, atI vs i = some v ∧ Rep B z v d := by
  unfold atI at h ⊢
  rw [r.length]
  cases e : ixN ds.length i with
  | none => rw [e] at h; cases h
  | some j =>
    rw [e] at h
    exact r.getD h
theorem fit_ix {B : Bs} : OpFit B (fun x y H Q => rIxL B.K x y H Q ∨ rIxT B.K x y H Q ∨ rIxS x y H Q) dIx := by
  intro z H v w a b val Q sub ha hb hf hv
  cases a with
  | list a =>
    cases b with
    | int i =>
      simp only [dIx] at hf
      obtain ⟨p, xs, rfl, h1, r1⟩ := ha.lst sub
      cases e : atI a i with
      | none => rw [e] at hf; cases hf
      | some d =>
        rw [e] at hf; cases hf
        obtain ⟨u, hu, ru⟩ := atI_reps r1 e
        exact .inl ⟨p, xs, i, u, rfl, hb.int, .of h1, hu, hv.1 _ ru⟩
    | _ => cases hf
  | tuple a =>
    cases b with
    | int i =>
      simp only [dIx] at hf
      obtain ⟨p, xs, rfl, h1, r1⟩ := ha.tup sub
      cases e : atI a i with
      | none => rw [e] at hf; cases hf
      | some d =>
        rw [e] at hf; cases hf
        obtain ⟨u, hu, ru⟩ := atI_reps r1 e
        exact .inr (.inl ⟨p, xs, i, u, rfl, hb.int, h1, hu, hv.1 _ ru⟩)
    | _ => cases hf
  | str a =>
    cases b with
    | int i =>
      simp only [dIx] at hf
      split at hf
      · rename_i hl
        cases e : atI a.cps.toList i with
        | none => rw [e] at hf; cases hf
        | some c =>
          rw [e] at hf; cases hf
          exact .inr (.inr ⟨a, i, c, ha.str, hb.int, hl, e, hv.str⟩)
      · cases hf
    | _ => cases hf
  | _ => cases hf
theorem e_ix {a b : Expr} {ma mb : M Val} (ha : PE X a (rdE (bs X) W ma)) (hb : PE X b (rdE (bs X) W mb)) (hs : PlainIx b) : PE X (.Subscript a b pos) (rdE (bs X) W (eBin dIx ma mb)) :=
  pe_weak (pe_ix (ix_list.or (ix_tup.or ix_str)) ha hb hs) (rd_bin fit_ix)
end
end Rf

namespace Rf
open PySem PySem.Spec PyProof.Rows L2

def aNil : M (List Val) := fun s => .ok [] s
def aCons (m : M Val) (ms : M (List Val)) : M (List Val) := fun s => (m s).bind fun v s1 => (ms s1).bind fun vs s2 => .ok (v :: vs) s2
section
variable {B : Bs} {W : WX} {σ : L2.St} {z z1 z2 : Fz} {H H0 H1 H2 : Hp} {s s1 s2 : S} {v : V} {val : Val} {d : Dt}
theorem ROL.step {r : R (List Val)} {Q : List V → Hp → Prop} (a : Stp B σ z H s z1 H1 s1) (h : ROL B W σ z H s r Q) : ROL B W σ z1 H1 s1 r Q := by
  cases r with
  | ok val s' => exact fun z' H' v x y => h z' H' v (a.trans x) (y.base a.ext.there)
  | ex e am => exact ROx.step a h
  | bad => exact h
theorem RO.bindL {r : R Val} {f : Val → S → R (List Val)} {Q : List V → Hp → Prop} (h : ROL B W σ z H s (r.bind f) Q) :
    RO B W σ z H s r (fun v H1 => ∃ z1 s1 val, Stp B σ z H s z1 H1 s1 ∧ VOk B σ H z1 H1 s1 v val ∧ ROL B W σ z1 H1 s1 (f val s1) Q) := by
  cases r with
  | ok val s' => exact fun z' H' v x y => ⟨z', s', val, x, y, ROL.step x h⟩
  | ex e am => exact h
  | bad => exact h
theorem RO.bindL' {r : R Val} {f : Val → S → R (List Val)} {Q : List V → Hp → Prop} (h : ROL B W σ z H s (r.bind f) Q) :
    RO B W σ z H s r (fun v H1 => ∃ z1 s1 val, Stp B σ z H s z1 H1 s1 ∧ VOk B σ H z1 H1 s1 v val ∧ ROL B W σ z H s (f val s1) Q) := by
  cases r with
  | ok val s' => exact fun z' H' v x y => ⟨z', s', val, x, y, h⟩
  | ex e am => exact h
  | bad => exact h
theorem ROL.bindL' {r : R (List Val)} {f : List Val → S → R (List Val)} {Q : List V → Hp → Prop} {z0 : Fz} {s0 : S} (a : Stp B σ z0 H0 s0 z H s) (h : ROL B W σ z0 H0 s0 (r.bind f) Q) :
    ROL B W σ z H s r (fun vs H1 => ∃ z1 s1 vals, Stp B σ z H s z1 H1 s1 ∧ VOks B σ H z1 H1 s1 vs vals ∧ ROL B W σ z0 H0 s0 (f vals s1) Q) := by
  cases r with
  | ok val s' => exact fun z' H' v x y => ⟨z', s', val, x, y, h⟩
  | ex e am => exact ROx.step a h
  | bad => exact h
theorem ROL.mono {r : R (List Val)} {Q Q' : List V → Hp → Prop} (h : ROL B W σ z H s r Q) (q : ∀ v H', Q v H' → Q' v H') : ROL B W σ z H s r Q' := by
  cases r with
  | ok val s' => exact fun z' H' v x y => q v H' (h z' H' v x y)
  | ex e am => exact h
  | bad => exact h
theorem VOks.ow_new : ∀ {vs : List V} {vals : List Val} {i : Nat} {d : Dt} {q : Addr}, VOks B σ H0 z H s vs vals → vals[i]? = some (.ow d) → vs[i]? = some (.ref q) → H0 q = none
  | _, _, _, _, _, .nil, e, _ => by simp at e
  | _, _, 0, _, _, .cons h _ _, e, e' => by
    simp at e e'
    exact h.2 _ _ e e'
  | _, _, i + 1, _, _, .cons _ _ r, e, e' => VOks.ow_new (i := i) r (by simpa using e) (by simpa using e')
end
section
variable {X : Cx} {W : WX} {e : Expr} {es : List Expr} {pos : Pos}
theorem a_nil : PA X [] (rdA (bs X) W aNil) := pa_weak pa_nil fun σ H Q ⟨z, s, g, h⟩ => h z H [] (.refl g) .nil
theorem rd_cons {B : Bs} {m : M Val} {ms : M (List Val)} : ∀ σ H Q, rdA B W (aCons m ms) σ H Q → tCons (rdE B W m) (rdA B W ms) σ H Q := by
  rintro σ H Q ⟨z, s, g, h⟩
  refine ⟨z, s, g, (RO.bindL' h).mono fun v H1 ⟨z1, s1, va, st1, v1, h1⟩ => ?_⟩
  refine ⟨z1, s1, st1.good, (ROL.bindL' st1 h1).mono fun vs H2 ⟨z2, s2, vals, st2, v2, h2⟩ => ?_⟩
  refine h2 z2 H2 (v :: vs) (st1.trans st2) (.cons (v1.step st2) (fun d p e1 e2 i d' e3 e4 => ?_) (v2.base st1.ext.there))
  have n := v2.ow_new e3 e4
  cases va with
  | ow d' =>
    obtain ⟨q, ho, e5, hq, _⟩ := v1.1
    rw [e2] at e5
    cases e5
    rw [hq] at n; cases n
  | _ => cases e1
theorem a_cons {m : M Val} {ms : M (List Val)} (he : PE X e (rdE (bs X) W m)) (hr : PA X es (rdA (bs X) W ms)) (hs : starEach (e :: es) X.env = (false, eval e X.env) :: starEach es X.env) : PA X (e :: es) (rdA (bs X) W (aCons m ms)) :=
  pa_weak (pa_cons he hr hs) rd_cons

def eTup (ms : M (List Val)) : M Val := fun s => (ms s).bind fun vs s1 => match frzs s1 vs with
  | some (ds, s2) => if ds.length ≤ sizeLine then .ok (.st (.tuple ds)) s2 else .bad
  | none => .bad
def eLst (ms : M (List Val)) : M Val := fun s => (ms s).bind fun vs s1 => match frzs s1 vs with
  | some (ds, s2) => if ds.length ≤ sizeLine then .ok (.ow (.list ds)) s2 else .bad
  | none => .bad
theorem ROL.bind' {B : Bs} {σ : L2.St} {z : Fz} {H : Hp} {s : S} {r : R (List Val)} {f : List Val → S → R Val} {Q : VK} (h : RO B W σ z H s (r.bind f) Q) :
    ROL B W σ z H s r (fun vs H1 => ∃ z1 s1 vals, Stp B σ z H s z1 H1 s1 ∧ VOks B σ H z1 H1 s1 vs vals ∧ RO B W σ z H s (f vals s1) Q) := by
  cases r with
  | ok val s' => exact fun z' H' v x y => ⟨z', s', val, x, y, h⟩
  | ex e am => exact h
  | bad => exact h
theorem RO.frzs {B : Bs} {σ : L2.St} {z z1 : Fz} {H H1 : Hp} {s s1 : S} {vs : List V} {vals : List Val} {f : List Dt → S → R Val} {Q : VK} (st : Stp B σ z H s z1 H1 s1) (vk : VOks B σ H z1 H1 s1 vs vals)
    (h : RO B W σ z H s (match frzs s1 vals with | some (ds, s2) => f ds s2 | none => .bad) Q) : ∃ ds z2 s2, Stp B σ z H s z2 H1 s2 ∧ Reps B z2 vs ds ∧ RO B W σ z2 H1 s2 (f ds s2) Q := by
  cases q : Rf.frzs s1 vals with
  | none => rw [q] at h; exact h.elim
  | some x =>
    obtain ⟨ds, s2⟩ := x
    rw [q] at h
    obtain ⟨z2, st2, r, _⟩ := frzs_ok st vk q
    exact ⟨ds, z2, s2, st2, r, h.step st2⟩
theorem e_tup {ms : M (List Val)} {k : Nat} (h : PA X es (rdA (bs X) W ms)) : PE X (.Tuple es k pos) (rdE (bs X) W (eTup ms)) := by
  refine pe_weak (pe_tupF h) fun σ H Q ⟨z, s, g, h⟩ => ⟨z, s, g, (ROL.bind' h).mono fun vs H1 ⟨z1, s1, vals, st1, v1, h1⟩ => ?_⟩
  obtain ⟨ds, z2, s2, st2, r, h2⟩ := RO.frzs st1 v1 h1
  split at h2
  · rename_i hl
    exact ⟨by rw [r.length]; exact hl, h2.tup st2.good r⟩
  · exact h2.elim
theorem e_lst {ms : M (List Val)} (h : PA X es (rdA (bs X) W ms)) : PE X (.List es pos) (rdE (bs X) W (eLst ms)) := by
  refine pe_weak (pe_lst h) fun σ H Q ⟨z, s, g, h⟩ => ⟨z, s, g, (ROL.bind' h).mono fun vs H1 ⟨z1, s1, vals, st1, v1, h1⟩ => ?_⟩
  obtain ⟨ds, z2, s2, st2, r, h2⟩ := RO.frzs st1 v1 h1
  split at h2
  · rename_i hl
    exact ⟨by rw [r.length]; exact hl, fun p hp => h2.ow st2.good (.lst r) hp⟩
  · exact h2.elim

def peeks (s : S) : List Val → Option (List Dt)
  | [] => some []
  | v :: vs => match peek s v, peeks s vs with
    | some d, some ds => some (d :: ds)
    | _, _ => none
inductive Nows (B : Bs) (z : Fz) (H : Hp) : List V → List Dt → Prop
  | nil : Nows B z H [] []
  | cons {v : V} {vs : List V} {d : Dt} {ds : List Dt} : Now B z H v d → Nows B z H vs ds → Nows B z H (v :: vs) (d :: ds)
theorem peeks_now {B : Bs} {σ : L2.St} {z : Fz} {H H0 : Hp} {s : S} (g : Good B z H σ s) : ∀ {vs : List V} {vals : List Val} {ds : List Dt}, VOks B σ H0 z H s vs vals → peeks s vals = some ds → Nows B z H vs ds
  | _, [], _, .nil, e => by cases e; exact .nil
  | _, val :: vals, _, .cons h _ r, e => by
    simp only [peeks] at e
    cases q : peek s val with
    | none => rw [q] at e; cases e
    | some d =>
      cases q2 : peeks s vals with
      | none => rw [q, q2] at e; cases e
      | some ds =>
        rw [q, q2] at e
        cases e
        exact .cons (peek_now g h q) (peeks_now g r q2)
def CallFit (B : Bs) (r : List V → Hp → VK → Prop) (f : List Dt → Option Val) : Prop :=
  ∀ (z : Fz) (H : Hp) (vs : List V) (ds : List Dt) (val : Val) (Q : VK), Sub z H → Nows B z H vs ds → f ds = some val → Fin B z H val Q → r vs H Q
def eCall (f : List Dt → Option Val) (ms : M (List Val)) : M Val := fun s => (ms s).bind fun vs s1 => match peeks s1 vs with
  | some ds => fin (f ds) s1
  | none => .bad
theorem rd_call {B : Bs} {r : List V → Hp → VK → Prop} {f : List Dt → Option Val} {ms : M (List Val)} (hf : CallFit B r f) : ∀ σ H Q, rdE B W (eCall f ms) σ H Q → tCB r (rdA B W ms) σ H Q := by
  rintro σ H Q ⟨z, s, g, h⟩
  refine ⟨z, s, g, (ROL.bind h).mono fun vs H1 ⟨z1, s1, vals, st1, v1, h1⟩ => ?_⟩
  cases e1 : peeks s1 vals with
  | none => rw [e1] at h1; exact h1.elim
  | some ds =>
    rw [e1] at h1
    obtain ⟨val, ev, hv⟩ := h1.fin st1.good
    exact hf z1 H1 vs ds val Q st1.good.sub (peeks_now st1.good v1 e1) ev hv
theorem CallR.or {f : Value} {r r' : List V → Hp → VK → Prop} (h : CallR X f r) (h' : CallR X f r') : CallR X f (fun xs H Q => r xs H Q ∨ r' xs H Q) := by
  intro pins s σ H xs us Q I rv q
  rcases q with q | q
  · exact h pins s σ H xs us Q I rv q
  · exact h' pins s σ H xs us Q I rv q

def dLen : List Dt → Option Val
  | [.list a] => some (.st (.int a.length))
  | [.tuple a] => some (.st (.int a.length))
  | [.str a] => if a.length ≤ sizeLine then some (.st (.int a.length)) else none
  | _ => none
theorem fit_len {B : Bs} : CallFit B (fun xs H Q => ∃ x n, xs = [x] ∧ LenV B.K x H n ∧ Q (.int n) H) dLen := by
  intro z H vs ds val Q sub hn hf hv
  cases hn with
  | nil => cases hf
  | @cons v vs d ds h hs =>
    cases hs with
    | cons _ _ => cases d <;> cases hf
    | nil =>
      cases d with
      | list a =>
        cases hf
        obtain ⟨p, xs, rfl, h1, r1⟩ := h.lst sub
        exact ⟨_, _, rfl, .inl ⟨xs, .of h1, rfl⟩, by rw [r1.length]; exact hv.int⟩
      | tuple a =>
        cases hf
        obtain ⟨p, xs, rfl, h1, r1⟩ := h.tup sub
        exact ⟨_, _, rfl, .inr ⟨xs, h1, rfl⟩, by rw [r1.length]; exact hv.int⟩
      | str a =>
        simp only [dLen] at hf
        split at hf
        · rename_i hl; cases hf; cases h.str; exact ⟨_, _, rfl, ⟨hl, rfl⟩, hv.int⟩
        · cases hf
      | _ => cases hf
def dAbs : List Dt → Option Val
  | [.int a] => some (.st (.int (if a < 0 then -a else a)))
  | _ => none
theorem fit_abs {B : Bs} : CallFit B (fun xs H Q => ∃ i, xs = [.int i] ∧ Q (.int (if i < 0 then -i else i)) H) dAbs := by
  intro z H vs ds val Q sub hn hf hv
  cases hn with
  | nil => cases hf
  | @cons v vs d ds h hs =>
    cases hs with
    | cons _ _ => cases d <;> cases hf
    | nil =>
      cases d with
      | int a => cases hf; cases h.int; exact ⟨a, rfl, hv.int⟩
      | _ => cases hf
theorem nows_two {B : Bs} {z : Fz} {H : Hp} {vs : List V} {a b : Dt} (h : Nows B z H vs [a, b]) : ∃ v w, vs = [v, w] ∧ Now B z H v a ∧ Now B z H w b := by
  cases h with
  | cons h1 h2 =>
    cases h2 with
    | cons h2 h3 =>
      cases h3
      exact ⟨_, _, rfl, h1, h2⟩
theorem nows_one {B : Bs} {z : Fz} {H : Hp} {vs : List V} {a : Dt} (h : Nows B z H vs [a]) : ∃ v, vs = [v] ∧ Now B z H v a := by
  cases h with
  | cons h1 h2 =>
    cases h2
    exact ⟨_, rfl, h1⟩
def dMax : List Dt → Option Val
  | [.int a, .int b] => some (.st (.int (if b > a then b else a)))
  | _ => none
def dMin : List Dt → Option Val
  | [.int a, .int b] => some (.st (.int (if b < a then b else a)))
  | _ => none
theorem fit_max {B : Bs} : CallFit B (fun xs H Q => ∃ i j, xs = [.int i, .int j] ∧ Q (.int (if j > i then j else i)) H) dMax := by
  intro z H vs ds val Q sub hn hf hv
  unfold dMax at hf
  split at hf
  · rename_i a b
    cases hf
    obtain ⟨v, w, rfl, h1, h2⟩ := nows_two hn
    rw [h1.int, h2.int]
    exact ⟨a, b, rfl, hv.int⟩
  · cases hf
theorem fit_min {B : Bs} : CallFit B (fun xs H Q => ∃ i j, xs = [.int i, .int j] ∧ Q (.int (if j < i then j else i)) H) dMin := by
  intro z H vs ds val Q sub hn hf hv
  unfold dMin at hf
  split at hf
  · rename_i a b
    cases hf
    obtain ⟨v, w, rfl, h1, h2⟩ := nows_two hn
    rw [h1.int, h2.int]
    exact ⟨a, b, rfl, hv.int⟩
  · cases hf
def dInt : List Dt → Option Val
  | [.int a] => some (.st (.int a))
  | [.bool a] => some (.st (.int (if a then 1 else 0)))
  | _ => none
theorem fit_int {B : Bs} : CallFit B (fun xs H Q => (∃ i, xs = [.int i] ∧ Q (.int i) H) ∨ ∃ k, xs = [.bl k] ∧ Q (.int (if k then 1 else 0)) H) dInt := by
  intro z H vs ds val Q sub hn hf hv
  unfold dInt at hf
  split at hf
  · rename_i a
    cases hf
    obtain ⟨v, rfl, h1⟩ := nows_one hn
    rw [h1.int]
    exact .inl ⟨a, rfl, hv.int⟩
  · rename_i a
    cases hf
    obtain ⟨v, rfl, h1⟩ := nows_one hn
    rw [h1.bl]
    exact .inr ⟨a, rfl, hv.int⟩
  · cases hf
def dList : List Dt → Option Val
  | [.list a] => some (.ow (.list a))
  | [.tuple a] => some (.ow (.list a))
  | _ => none
theorem fit_list {B : Bs} : CallFit B (fun xs H Q => ∃ p ys, xs = [.ref p] ∧ (SqL B.K H p ys ∨ SqT B.K H p ys) ∧ ∀ l, H l = none → Q (.ref l) (upd H l (.lst ys))) dList := by
  intro z H vs ds val Q sub hn hf hv
  unfold dList at hf
  split at hf
  · rename_i a
    cases hf
    obtain ⟨v, rfl, h1⟩ := nows_one hn
    obtain ⟨p, xs, rfl, h1, r1⟩ := h1.lst sub
    exact ⟨p, xs, rfl, .inl (.of h1), hv.lst r1⟩
  · rename_i a
    cases hf
    obtain ⟨v, rfl, h1⟩ := nows_one hn
    obtain ⟨p, xs, rfl, h1, r1⟩ := h1.tup sub
    exact ⟨p, xs, rfl, .inr h1, hv.lst r1⟩
  · cases hf
def dTuple : List Dt → Option Val
  | [.list a] => some (.st (.tuple a))
  | [.tuple a] => some (.st (.tuple a))
  | _ => none
theorem fit_tuple {B : Bs} : CallFit B (rTupleF B.K) dTuple := by
  intro z H vs ds val Q sub hn hf hv
  unfold dTuple at hf
  split at hf
  · rename_i a
    cases hf
    obtain ⟨v, rfl, h1⟩ := nows_one hn
    obtain ⟨p, xs, rfl, h1, r1⟩ := h1.lst sub
    exact ⟨p, xs, rfl, .inl ⟨.of h1, hv.2 _ _ rfl r1⟩⟩
  · rename_i a
    cases hf
    obtain ⟨v, rfl, h1⟩ := nows_one hn
    obtain ⟨p, xs, rfl, h2, r1⟩ := h1.tup sub
    refine ⟨p, xs, rfl, .inr ⟨h2, hv.1 _ ?_⟩⟩
    rcases h1 with h | ⟨_, _, _, _, h⟩
    · exact h
    · cases h
  · cases hf
def ints? : List Dt → Option (List Int)
  | [] => some []
  | .int i :: r => (ints? r).map (i :: ·)
  | _ :: _ => none
theorem ints_eq : ∀ {ds : List Dt} {ns : List Int}, ints? ds = some ns → ds = ns.map PyData.int
  | [], _, e => by cases e; rfl
  | d :: ds, ns, e => by
    cases d with
    | int i =>
      simp only [ints?] at e
      cases q : ints? ds with
      | none => rw [q] at e; cases e
      | some ms => rw [q] at e; cases e; rw [ints_eq q]; rfl
    | _ => cases e
theorem ints_map (ns : List Int) : ints? (ns.map PyData.int) = some ns := by
  induction ns with
  | nil => rfl
  | cons n ns ih => simp [ints?, ih]
def insI (n : Int) : List Int → List Int
  | [] => [n]
  | m :: r => if n ≤ m then n :: m :: r else m :: insI n r
def srtI : List Int → List Int
  | [] => []
  | n :: r => insI n (srtI r)
theorem insI_perm (n : Int) : ∀ l : List Int, (insI n l).Perm (n :: l)
  | [] => .refl _
  | m :: r => by
    simp only [insI]
    split
    · exact .refl _
    · exact ((insI_perm n r).cons m).trans (.swap n m r)
theorem srtI_perm : ∀ l : List Int, (srtI l).Perm l
  | [] => .refl _
  | n :: r => (insI_perm n _).trans ((srtI_perm r).cons n)
theorem insI_sorted (n : Int) : ∀ {l : List Int}, l.Pairwise (· ≤ ·) → (insI n l).Pairwise (· ≤ ·)
  | [], _ => by simp [insI]
  | m :: r, h => by
    simp only [insI]
    rw [List.pairwise_cons] at h
    split
    · rename_i hn
      refine List.pairwise_cons.mpr ⟨fun x hx => ?_, List.pairwise_cons.mpr h⟩
      rcases List.mem_cons.mp hx with rfl | hx
      · exact hn
      · have := h.1 x hx; omega
    · rename_i hn
      refine List.pairwise_cons.mpr ⟨fun x hx => ?_, insI_sorted n h.2⟩
      rcases List.mem_cons.mp ((insI_perm n r).mem_iff.mp hx) with rfl | hx
      · omega
      · exact h.1 x hx
theorem srtI_sorted : ∀ l : List Int, (srtI l).Pairwise (· ≤ ·)
  | [] => .nil
  | n :: r => insI_sorted n (srtI_sorted r)
theorem sorted_unique : ∀ {l m : List Int}, l.Perm m → l.Pairwise (· ≤ ·) → m.Pairwise (· ≤ ·) → l = m
  | [], m, p, _, _ => by simpa using p.symm.eq_nil
  | a :: l, [], p, _, _ => by simpa using p.eq_nil
  | a :: l, b :: m, p, h1, h2 => by
    rw [List.pairwise_cons] at h1 h2
    have e : a = b := by
      have x : a ∈ b :: m := p.mem_iff.mp List.mem_cons_self
      have y : b ∈ a :: l := p.mem_iff.mpr List.mem_cons_self
      have hx : b ≤ a := by
        rcases List.mem_cons.mp x with e | x
        · omega
        · exact h2.1 a x
      have hy : a ≤ b := by
        rcases List.mem_cons.mp y with e | y
        · omega
        · exact h1.1 b y
      omega
    subst e
    rw [sorted_unique (List.Perm.cons_inv p) h1.2 h2.2]
def dSorted : List Dt → Option Val
  | [.list a] => (ints? a).map fun ns => .ow (.list ((srtI ns).map PyData.int))
  | _ => none
theorem fit_sorted {B : Bs} : CallFit B (rSortedI B.K) dSorted := by
  intro z H vs ds val Q sub hn hf hv
  unfold dSorted at hf
  split at hf
  · rename_i a
    cases q : ints? a with
    | none => rw [q] at hf; cases hf
    | some ns =>
      rw [q] at hf; cases hf
      obtain ⟨v, rfl, h1⟩ := nows_one hn
      obtain ⟨p, xs, rfl, h1, r1⟩ := h1.lst sub
      rw [ints_eq q] at r1
      rw [r1.ints] at h1
      refine ⟨p, ns, rfl, .of h1, fun ns' l pm so hl => ?_⟩
      have e : ns' = srtI ns := sorted_unique (pm.trans (srtI_perm ns).symm) so (srtI_sorted ns)
      subst e
      exact hv.lst (Reps.of_ints _) l hl
  · cases hf
end
end Rf

namespace Rf
open PySem PySem.Spec PyProof.Rows L2

inductive Flo where
  | nx | bk | ct | rt (v : Val)
structure StpS (B : Bs) (σ : L2.St) (z : Fz) (H : Hp) (s : S) (σ' : L2.St) (z' : Fz) (H' : Hp) (s' : S) : Prop where
  ext : Ext (Own σ s.env z) z H z' H'
  good : Good B z' H' σ' s'
  sub : OwnSub (Own σ s.env z) H (Own σ' s'.env z')
  len : σ'.length = σ.length
section
variable (B : Bs) (W : WX)
def SOx (σ : L2.St) (z : Fz) (H : Hp) (s : S) (e : Ex) (am : Option Src) : Prop :=
  ∀ z' H' cls d σ', σ'.length = σ.length → Ext (Own σ s.env z) z H z' H' → AmbOk z' H' am → ExAt B z' H' e cls d → W cls d σ' H'
def SO (σ : L2.St) (z : Fz) (H : Hp) (s : S) (r : R Flo) (D : Ends) : Prop := match r with
  | .ok .nx s' => ∀ σ' z' H', StpS B σ z H s σ' z' H' s' → D.nx σ' H'
  | .ok .bk s' => ∀ σ' z' H', StpS B σ z H s σ' z' H' s' → D.bk σ' H'
  | .ok .ct s' => ∀ σ' z' H', StpS B σ z H s σ' z' H' s' → D.ct σ' H'
  | .ok (.rt val) s' => ∀ σ' z' H' v, StpS B σ z H s σ' z' H' s' → VOk B σ' H z' H' s' v val → D.rt v H'
  | .ex e am => SOx B W σ z H s e am
  | .bad => False
def rdS (m : M Flo) : TS := fun D σ H => ∃ z s, Good B z H σ s ∧ SO B W σ z H s (m s) D
end
section
variable {B : Bs} {W : WX} {σ σ1 σ2 : L2.St} {z z1 z2 : Fz} {H H0 H1 H2 : Hp} {s s1 s2 : S} {v : V} {val : Val} {d : Dt} {D : Ends}
theorem StpS.refl (g : Good B z H σ s) : StpS B σ z H s σ z H s := ⟨.refl _ _ _, g, .refl _ _, rfl⟩
theorem Stp.toS (a : Stp B σ z H s z1 H1 s1) : StpS B σ z H s σ z1 H1 s1 := ⟨a.ext, a.good, a.sub, rfl⟩
theorem StpS.trans (a : StpS B σ z H s σ1 z1 H1 s1) (b : StpS B σ1 z1 H1 s1 σ2 z2 H2 s2) : StpS B σ z H s σ2 z2 H2 s2 :=
  ⟨a.ext.trans a.sub b.ext, b.good, a.sub.trans a.ext.there b.sub, b.len.trans a.len⟩
theorem SOx.step {e : Ex} {am : Option Src} (a : StpS B σ z H s σ1 z1 H1 s1) (h : SOx B W σ z H s e am) : SOx B W σ1 z1 H1 s1 e am :=
  fun z' H' cls d σ' l x y w => h z' H' cls d σ' (l.trans a.len) (a.ext.trans a.sub x) y w
theorem SO.step {r : R Flo} (a : StpS B σ z H s σ1 z1 H1 s1) (h : SO B W σ z H s r D) : SO B W σ1 z1 H1 s1 r D := by
  cases r with
  | ok f s' =>
    cases f with
    | nx => exact fun σ' z' H' x => h σ' z' H' (a.trans x)
    | bk => exact fun σ' z' H' x => h σ' z' H' (a.trans x)
    | ct => exact fun σ' z' H' x => h σ' z' H' (a.trans x)
    | rt w => exact fun σ' z' H' v x y => h σ' z' H' v (a.trans x) (y.base a.ext.there)
  | ex e am => exact SOx.step a h
  | bad => exact h
theorem SOx.toE {e : Ex} {am : Option Src} (h : SOx B W σ z H s e am) : ROx B W σ z H s e am := fun z' H' cls d x y w => h z' H' cls d σ rfl x y w
theorem RO.bindS {r : R Val} {f : Val → S → R Flo} (h : SO B W σ z H s (r.bind f) D) :
    RO B W σ z H s r (fun v H1 => ∃ z1 s1 val, Stp B σ z H s z1 H1 s1 ∧ VOk B σ H z1 H1 s1 v val ∧ SO B W σ z H s (f val s1) D) := by
  cases r with
  | ok val s' => exact fun z' H' v x y => ⟨z', s', val, x, y, h⟩
  | ex e am => exact SOx.toE h
  | bad => exact h
theorem ROB.bindS {r : R Bool} {f : Bool → S → R Flo} (h : SO B W σ z H s (r.bind f) D) :
    ROB B W σ z H s r (fun b H1 => ∃ z1 s1, Stp B σ z H s z1 H1 s1 ∧ SO B W σ z H s (f b s1) D) := by
  cases r with
  | ok val s' => exact fun z' H' x => ⟨z', s', x, h⟩
  | ex e am => exact SOx.toE h
  | bad => exact h
theorem ROL.bindS {r : R (List Val)} {f : List Val → S → R Flo} (h : SO B W σ z H s (r.bind f) D) :
    ROL B W σ z H s r (fun vs H1 => ∃ z1 s1 vals, Stp B σ z H s z1 H1 s1 ∧ VOks B σ H z1 H1 s1 vs vals ∧ SO B W σ z H s (f vals s1) D) := by
  cases r with
  | ok val s' => exact fun z' H' v x y => ⟨z', s', val, x, y, h⟩
  | ex e am => exact SOx.toE h
  | bad => exact h
theorem SO.bind {r : R Flo} {f : S → R Flo} (h : SO B W σ z H s (r.bind fun g s1 => match g with | .nx => f s1 | g => .ok g s1) D) :
    SO B W σ z H s r { D with nx := fun σ1 H1 => ∃ z1 s1, StpS B σ z H s σ1 z1 H1 s1 ∧ SO B W σ1 z1 H1 s1 (f s1) D } := by
  cases r with
  | ok g s' =>
    cases g with
    | nx => exact fun σ' z' H' x => ⟨z', s', x, SO.step x h⟩
    | bk => exact h
    | ct => exact h
    | rt v => exact h
  | ex e am => exact h
  | bad => exact h
theorem SO.mono {r : R Flo} {D' : Ends} (h : SO B W σ z H s r D) (n : ∀ a b, D.nx a b → D'.nx a b) (r' : ∀ a b, D.rt a b → D'.rt a b) (bk : ∀ a b, D.bk a b → D'.bk a b) (ct : ∀ a b, D.ct a b → D'.ct a b) : SO B W σ z H s r D' := by
  cases r with
  | ok g s' =>
    cases g with
    | nx => exact fun σ' z' H' x => n _ _ (h σ' z' H' x)
    | bk => exact fun σ' z' H' x => bk _ _ (h σ' z' H' x)
    | ct => exact fun σ' z' H' x => ct _ _ (h σ' z' H' x)
    | rt v => exact fun σ' z' H' v x y => r' _ _ (h σ' z' H' v x y)
  | ex e am => exact h
  | bad => exact h
end
def sNx : M Flo := fun s => .ok .nx s
def sSeq (m n : M Flo) : M Flo := fun s => (m s).bind fun g s1 => match g with
  | .nx => n s1
  | g => .ok g s1
section
variable {X : Cx} {W : WX} {e : Expr} {st : Stmt} {sts : List Stmt} {pos : Pos}
theorem ss_nil : PSs X [] (rdS (bs X) W sNx) := pss_weak pss_nil fun D σ H ⟨z, s, g, h⟩ => h σ z H (.refl g)
theorem rd_seq {B : Bs} {m n : M Flo} : ∀ D σ H, rdS B W (sSeq m n) D σ H → tSeq (rdS B W m) (rdS B W n) D σ H := fun D σ H ⟨z, s, g, h⟩ =>
  ⟨z, s, g, (SO.bind h).mono (fun σ1 H1 ⟨z1, s1, x, y⟩ => ⟨z1, s1, x.good, y⟩) (fun _ _ x => x) (fun _ _ x => x) (fun _ _ x => x)⟩
theorem ss_cons {m n : M Flo} (h1 : PS X st (rdS (bs X) W m)) (h2 : PSs X sts (rdS (bs X) W n)) : PSs X (st :: sts) (rdS (bs X) W (sSeq m n)) := pss_weak (pss_cons h1 h2) rd_seq
theorem ss_one {m : M Flo} (h1 : PS X st (rdS (bs X) W m)) : PSs X [st] (rdS (bs X) W m) := pss_one h1
theorem s_pass : PS X (.Pass pos) (rdS (bs X) W sNx) := ps_weak ps_pass fun D σ H ⟨z, s, g, h⟩ => h σ z H (.refl g)
def sBk : M Flo := fun s => .ok .bk s
def sCt : M Flo := fun s => .ok .ct s
theorem s_break : PS X (.Break pos) (rdS (bs X) W sBk) := ps_weak ps_break fun D σ H ⟨z, s, g, h⟩ => h σ z H (.refl g)
theorem s_continue : PS X (.Continue pos) (rdS (bs X) W sCt) := ps_weak ps_continue fun D σ H ⟨z, s, g, h⟩ => h σ z H (.refl g)
theorem s_no : PS X st (rdS (bs X) W fun _ => .bad) := ⟨fun _ _ _ _ _ _ ⟨_, _, _, h⟩ => h.elim⟩
theorem ss_no : PSs X sts (rdS (bs X) W fun _ => .bad) := ⟨fun _ _ _ _ _ _ ⟨_, _, _, h⟩ => h.elim⟩
def sDrop (m : M Val) : M Flo := fun s => (m s).bind fun _ s1 => .ok .nx s1
theorem s_drop {m : M Val} (h : PE X e (rdE (bs X) W m)) (hs : swapsWith e none pos.line X.env = pure false) : PS X (.Expr e pos) (rdS (bs X) W (sDrop m)) :=
  ps_weak (ps_expr h hs) fun D σ H ⟨z, s, g, h⟩ => ⟨z, s, g, (RO.bindS h).mono fun v H1 ⟨z1, s1, val, st1, _, h1⟩ => h1 σ z1 H1 st1.toS⟩
def sRet (m : M Val) : M Flo := fun s => (m s).bind fun v s1 => .ok (.rt v) s1
theorem s_ret {m : M Val} (h : PE X e (rdE (bs X) W m)) : PS X (.Return (some e) pos) (rdS (bs X) W (sRet m)) :=
  ps_weak (ps_ret h) fun D σ H ⟨z, s, g, h⟩ => ⟨z, s, g, (RO.bindS h).mono fun v H1 ⟨z1, s1, val, st1, v1, h1⟩ => h1 σ z1 H1 v st1.toS v1⟩
theorem s_retN : PS X (.Return none pos) (rdS (bs X) W (sRet (eC .none))) :=
  ps_weak ps_retN fun D σ H ⟨z, s, g, h⟩ => h σ z H .non (.refl g) ⟨.non, fun _ _ e => by cases e⟩
def sIf (c : M Bool) (m n : M Flo) : M Flo := fun s => (c s).bind fun b s1 => if b then m s1 else n s1
theorem s_if {c : Expr} {a b : List Stmt} {mc : M Bool} {m n : M Flo} (hc : PT X c (rdB (bs X) W mc)) (ha : PSs X a (rdS (bs X) W m)) (hb : PSs X b (rdS (bs X) W n)) : PS X (.If c a b pos) (rdS (bs X) W (sIf mc m n)) :=
  ps_weak (ps_if hc ha hb) fun D σ H ⟨z, s, g, h⟩ => ⟨z, s, g, (ROB.bindS h).mono fun k H1 ⟨z1, s1, st1, h1⟩ => by
    cases k with
    | true => exact ⟨z1, s1, st1.good, SO.step st1.toS h1⟩
    | false => exact ⟨z1, s1, st1.good, SO.step st1.toS h1⟩⟩

def store (i : Nat) (v : Val) (s : S) : R Flo := if i < s.env.length then (match v with
    | .st d => .ok .nx { s with env := s.env.set i (.fz d) }
    | .ow d => .ok .nx { s with env := s.env.set i (.ow d) }
    | .sl j => match frz s (.sl j) with
      | some (d, s1) => .ok .nx { s1 with env := s1.env.set i (.fz d) }
      | none => .bad) else .bad
theorem slotAt_set {σ : L2.St} {env : List Slot} {i j : Nat} {x : Slot} {v : Option V} {p : Addr} (h : SlotAt (σ.set i v) (env.set i x) j p) (ne : j ≠ i) : SlotAt σ env j p := by
  obtain ⟨d, e1, e2⟩ := h
  rw [List.getElem?_set_ne (Ne.symm ne)] at e1 e2
  exact ⟨d, e1, e2⟩
theorem Good.setFz {B : Bs} {z : Fz} {H : Hp} {σ : L2.St} {s : S} {i : Nat} {v : V} {d : Dt} (g : Good B z H σ s) (r : Rep B z v d) : Good B z H (σ.set i (some v)) { s with env := s.env.set i (.fz d) } := by
  have old : ∀ {j q}, SlotAt (σ.set i (some v)) (s.env.set i (.fz d)) j q → SlotAt σ s.env j q := fun {j q} h => by
    by_cases e : j = i
    · subst e
      obtain ⟨d', e1, e2⟩ := h
      by_cases hl : j < s.env.length
      · rw [List.getElem?_set_self hl] at e1; cases e1
      · rw [List.getElem?_eq_none (by simpa using Nat.le_of_not_lt hl)] at e1; cases e1
    · exact slotAt_set h e
  refine ⟨by simpa using g.len, g.sub, fun j x o e1 e2 => ?_, fun j k p h1 h2 => g.apart j k p (old h1) (old h2), g.amb, fun j p h => g.ambS j p (old h)⟩
  have e1' : (s.env.set i (.fz d))[j]? = some x := e1
  by_cases e : j = i
  · subst e
    by_cases hl : j < s.env.length
    · rw [List.getElem?_set_self hl] at e1'
      rw [List.getElem?_set_self (by rw [← g.len]; exact hl)] at e2
      cases e1'; cases e2
      exact ⟨v, rfl, r⟩
    · rw [List.getElem?_eq_none (by simpa using Nat.le_of_not_lt hl)] at e1'; cases e1'
  · rw [List.getElem?_set_ne (Ne.symm e)] at e1' e2
    exact g.slots j x o e1' e2
theorem own_setFz {σ : L2.St} {env : List Slot} {z : Fz} {i : Nat} {d : Dt} {v : V} {p : Addr} (h : Own (σ.set i (some v)) (env.set i (.fz d)) z p) : Own σ env z p := by
  rcases h with h | ⟨j, h⟩
  · exact .inl h
  · refine .inr ⟨j, ?_⟩
    by_cases e : j = i
    · subst e
      obtain ⟨d', e1, e2⟩ := h
      by_cases hl : j < env.length
      · rw [List.getElem?_set_self hl] at e1; cases e1
      · rw [List.getElem?_eq_none (by simpa using Nat.le_of_not_lt hl)] at e1; cases e1
    · exact slotAt_set h e
theorem Good.setOw {B : Bs} {z : Fz} {H : Hp} {σ : L2.St} {s : S} {i : Nat} {p : Addr} {ho : HO} {d : Dt} (g : Good B z H σ s) (hp : H p = some ho) (r : OwnO B z d ho) (f : z.F p = none) (n : ¬ Own σ s.env z p) :
    Good B z H (σ.set i (some (.ref p))) { s with env := s.env.set i (.ow d) } := by
  have old : ∀ {j q}, SlotAt (σ.set i (some (.ref p))) (s.env.set i (.ow d)) j q → (j = i ∧ q = p) ∨ (j ≠ i ∧ SlotAt σ s.env j q) := fun {j q} h => by
    by_cases e : j = i
    · subst e
      obtain ⟨d', e1, e2⟩ := h
      by_cases hl : j < σ.length
      · rw [List.getElem?_set_self hl] at e2; cases e2; exact .inl ⟨rfl, rfl⟩
      · rw [List.getElem?_eq_none (by simpa using Nat.le_of_not_lt hl)] at e2; cases e2
    · exact .inr ⟨e, slotAt_set h e⟩
  refine ⟨by simpa using g.len, g.sub, fun j x o e1 e2 => ?_, fun j k q h1 h2 => ?_, g.amb, fun j q h => ?_⟩
  · have e1' : (s.env.set i (.ow d))[j]? = some x := e1
    by_cases e : j = i
    · subst e
      by_cases hl : j < s.env.length
      · rw [List.getElem?_set_self hl] at e1'
        rw [List.getElem?_set_self (by rw [← g.len]; exact hl)] at e2
        cases e1'; cases e2
        exact ⟨p, ho, rfl, hp, r, f⟩
      · rw [List.getElem?_eq_none (by simpa using Nat.le_of_not_lt hl)] at e1'; cases e1'
    · rw [List.getElem?_set_ne (Ne.symm e)] at e1' e2
      exact g.slots j x o e1' e2
  · rcases old h1 with ⟨a1, a2⟩ | ⟨a, g1⟩
    · rcases old h2 with ⟨b1, _⟩ | ⟨b, g2⟩
      · rw [a1, b1]
      · rw [a2] at g2
        exact absurd (.inr ⟨_, g2⟩) n
    · rcases old h2 with ⟨b1, b2⟩ | ⟨b, g2⟩
      · rw [b2] at g1
        exact absurd (.inr ⟨_, g1⟩) n
      · exact g.apart j k q g1 g2
  · rcases old h with ⟨rfl, rfl⟩ | ⟨_, h⟩
    · exact fun y => n (.inl y)
    · exact g.ambS j q h
theorem own_setOw {σ : L2.St} {env : List Slot} {z : Fz} {i : Nat} {d : Dt} {p q : Addr} (h : Own (σ.set i (some (.ref p))) (env.set i (.ow d)) z q) : q = p ∨ Own σ env z q := by
  rcases h with h | ⟨j, h⟩
  · exact .inr (.inl h)
  · by_cases e : j = i
    · subst e
      obtain ⟨d', e1, e2⟩ := h
      by_cases hl : j < σ.length
      · rw [List.getElem?_set_self hl] at e2; cases e2; exact .inl rfl
      · rw [List.getElem?_eq_none (by simpa using Nat.le_of_not_lt hl)] at e2; cases e2
    · exact .inr (.inr ⟨j, slotAt_set h e⟩)
theorem store_rd {B : Bs} {D : Ends} {σ σ0 : L2.St} {z z0 : Fz} {H H0 : Hp} {s s0 : S} {i : Nat} {v : V} {val : Val} (st : StpS B σ0 z0 H0 s0 σ z H s) (vk : VOk B σ H0 z H s v val) (h : SO B W σ0 z0 H0 s0 (store i val s) D) : D.nx (σ.set i (some v)) H := by
  unfold store at h
  split at h
  · have hln : (σ.set i (some v)).length = σ0.length := by rw [List.length_set]; exact st.len
    cases val with
    | st d => exact h _ z H ⟨st.ext, st.good.setFz vk.1, fun p q => st.sub p (own_setFz q), hln⟩
    | ow d =>
      obtain ⟨p, ho, e, hp, r, f, n⟩ := vk.1
      have h0 := vk.2 d p rfl e
      subst e
      refine h _ z H ⟨st.ext, st.good.setOw hp r f n, fun q y => ?_, hln⟩
      rcases own_setOw y with rfl | y
      · exact .inr h0
      · exact st.sub q y
    | sl j =>
      simp only at h
      cases q : frz s (.sl j) with
      | none => rw [q] at h; exact h.elim
      | some x =>
        obtain ⟨d, s1⟩ := x
        rw [q] at h
        have st0 : Stp B σ z H s z H s := .refl st.good
        obtain ⟨z', st', r, _⟩ := frz_ok st0 (⟨vk.1, fun _ _ e => by cases e⟩ : VOk B σ H z H s v (.sl j)) q
        have st2 := st.trans st'.toS
        exact h _ z' H ⟨st2.ext, st2.good.setFz r, fun p q => st2.sub p (own_setFz q), hln⟩
  · exact h.elim
def sSet (i : Nat) (m : M Val) : M Flo := fun s => (m s).bind (store i)
theorem s_set {i : Nat} {x : Str} {m : M Val} {pos' : Pos} (hN : X.N.Nodup) (hi : X.N[i]? = some x) (hx : Loc X.env.scope x) (h : PE X e (rdE (bs X) W m)) (hs : swapsWith e (some (.Name x pos')) pos.line X.env = pure false) (hf : X.fn x = true ∨ X.env.scope.names.lookup x = some .local) :
    PS X (.Assign [.Name x pos'] e pos) (rdS (bs X) W (sSet i m)) :=
  ps_weak (ps_set hN hi hx h hs hf) fun D σ H ⟨z, s, g, h⟩ => ⟨z, s, g, (RO.bindS h).mono fun v H1 ⟨z1, s1, val, st1, v1, h1⟩ => store_rd st1.toS v1 h1⟩

def wIter (c : M Bool) (b : M Flo) : Nat → S → Option (R Flo)
  | 0, _ => none
  | n + 1, s => match c s with
    | .ok true s1 => match b s1 with
      | .ok .nx s2 => wIter c b n s2
      | .ok .ct s2 => wIter c b n s2
      | .ok .bk s2 => some (.ok .nx s2)
      | .ok (.rt v) s2 => some (.ok (.rt v) s2)
      | .ex e am => some (.ex e am)
      | .bad => some .bad
    | .ok false s1 => some (.ok .nx s1)
    | .ex e am => some (.ex e am)
    | .bad => some .bad
theorem wIter_succ {c : M Bool} {b : M Flo} : ∀ {n : Nat} {s : S} {r : R Flo}, wIter c b n s = some r → wIter c b (n + 1) s = some r
  | 0, _, _, h => by cases h
  | n + 1, s, r, h => by
    rw [wIter] at h ⊢
    cases e : c s with
    | ok k s1 =>
      rw [e] at h
      cases k with
      | true =>
        simp only at h ⊢
        cases e2 : b s1 with
        | ok f s2 =>
          rw [e2] at h
          cases f with
          | nx => exact wIter_succ h
          | ct => exact wIter_succ h
          | bk => exact h
          | rt v => exact h
        | ex _ _ => rw [e2] at h; exact h
        | bad => rw [e2] at h; exact h
      | false => exact h
    | ex _ _ => rw [e] at h; exact h
    | bad => rw [e] at h; exact h
theorem wIter_le {c : M Bool} {b : M Flo} {n m : Nat} {s : S} {r : R Flo} (h : wIter c b n s = some r) (l : n ≤ m) : wIter c b m s = some r := by
  induction l with
  | refl => exact h
  | step _ ih => exact wIter_succ ih
open Classical in
noncomputable def sWhile (c : M Bool) (b : M Flo) : M Flo := fun s => if h : ∃ n r, wIter c b n s = some r then (Classical.choose (Classical.choose_spec h)) else .bad
theorem sWhile_of {c : M Bool} {b : M Flo} {n : Nat} {s : S} {r : R Flo} (h : wIter c b n s = some r) : sWhile c b s = r := by
  have ex : ∃ n r, wIter c b n s = some r := ⟨n, r, h⟩
  unfold sWhile
  rw [dif_pos ex]
  have h2 := Classical.choose_spec (Classical.choose_spec ex)
  have h3 := wIter_le h2 (Nat.le_max_left _ n)
  have h4 := wIter_le h (Nat.le_max_right (Classical.choose ex) n)
  rw [h3] at h4
  exact Option.some.inj h4
theorem sWhile_iter {c : M Bool} {b : M Flo} {s : S} (h : sWhile c b s ≠ .bad) : ∃ n, wIter c b n s = some (sWhile c b s) := by
  by_cases ex : ∃ n r, wIter c b n s = some r
  · obtain ⟨n, r, e⟩ := ex
    exact ⟨n, by rw [sWhile_of e]; exact e⟩
  · unfold sWhile at h
    rw [dif_neg ex] at h
    exact absurd rfl h
theorem sWhile_eq (c : M Bool) (b : M Flo) (s : S) : sWhile c b s = (c s).bind fun k s1 => if k then (b s1).bind fun f s2 => match f with
    | .nx => sWhile c b s2
    | .ct => sWhile c b s2
    | .bk => .ok .nx s2
    | .rt v => .ok (.rt v) s2
  else .ok .nx s1 := by
  cases e : c s with
  | ok k s1 =>
    cases k with
    | true =>
      rw [R.bind_ok, if_pos rfl]
      cases e2 : b s1 with
      | ok f s2 =>
        rw [R.bind_ok]
        have key : ∀ g : Flo, g = f → (g = .nx ∨ g = .ct) → sWhile c b s = sWhile c b s2 := fun g hg hh => by
          by_cases ex : ∃ n r, wIter c b n s2 = some r
          · obtain ⟨n, r, q⟩ := ex
            rw [sWhile_of q]
            refine sWhile_of (n := n + 1) ?_
            rw [wIter, e]
            simp only [e2]
            rcases hh with rfl | rfl
            · rw [← hg]; exact q
            · rw [← hg]; exact q
          · have no : ¬ ∃ n r, wIter c b n s = some r := fun ⟨n, r, q⟩ => by
              cases n with
              | zero => cases q
              | succ n =>
                rw [wIter, e] at q
                simp only [e2] at q
                rcases hh with rfl | rfl
                · rw [← hg] at q; exact ex ⟨n, r, q⟩
                · rw [← hg] at q; exact ex ⟨n, r, q⟩
            unfold sWhile
            rw [dif_neg ex, dif_neg no]
        cases f with
        | nx => exact key .nx rfl (.inl rfl)
        | ct => exact key .ct rfl (.inr rfl)
        | bk => exact sWhile_of (n := 1) (by rw [wIter, e]; simp only [e2])
        | rt v => exact sWhile_of (n := 1) (by rw [wIter, e]; simp only [e2])
      | ex _ _ => exact sWhile_of (n := 1) (by rw [wIter, e]; simp only [e2]; rfl)
      | bad => exact sWhile_of (n := 1) (by rw [wIter, e]; simp only [e2]; rfl)
    | false => exact sWhile_of (n := 1) (by rw [wIter, e]; rfl)
  | ex _ _ => exact sWhile_of (n := 1) (by rw [wIter, e]; rfl)
  | bad => exact sWhile_of (n := 1) (by rw [wIter, e]; rfl)
theorem s_while {c : Expr} {body : List Stmt} {mc : M Bool} {mb : M Flo} (hp : PassesOwn (model X.prog X.w) X.A X.env X.xe) (hc : PT X c (rdB (bs X) W mc)) (hb : PSs X body (rdS (bs X) W mb)) : PS X (.While c body [] pos) (rdS (bs X) W (sWhile mc mb)) := by
  refine ps_weak (ps_while hp hc hb) fun D σ H ⟨z, s, g, h⟩ => ?_
  have nb : sWhile mc mb s ≠ .bad := fun e => by rw [e] at h; exact h
  obtain ⟨n, hn⟩ := sWhile_iter nb
  refine ⟨fun m σ1 H1 => ∃ z1 s1, StpS (bs X) σ z H s σ1 z1 H1 s1 ∧ wIter mc mb m s1 = some (sWhile mc mb s), ⟨n, z, s, .refl g, hn⟩, ?_⟩
  rintro m σ1 H1 ⟨z1, s1, st1, it⟩
  cases m with
  | zero => cases it
  | succ m =>
    rw [wIter] at it
    refine ⟨z1, s1, st1.good, ?_⟩
    cases e : mc s1 with
    | bad => rw [e] at it; exact absurd (Option.some.inj it).symm nb
    | ex er am =>
      rw [e] at it
      rw [← Option.some.inj it] at h
      exact SOx.toE (SOx.step st1 h)
    | ok k s2 =>
      rw [e] at it
      intro z2 H2 st2
      have st12 := st1.trans st2.toS
      cases k with
      | false =>
        rw [if_neg Bool.false_ne_true]
        simp only at it
        rw [← Option.some.inj it] at h
        exact h _ _ _ st12
      | true =>
        rw [if_pos rfl]
        simp only at it
        refine ⟨fun σ' H' => ∃ m', m' < m + 1 ∧ ∃ z1 s1, StpS (bs X) σ z H s σ' z1 H' s1 ∧ wIter mc mb m' s1 = some (sWhile mc mb s), fun σ' H' q => q, z2, s2, st2.good, ?_⟩
        cases e2 : mb s2 with
        | bad => rw [e2] at it; exact absurd (Option.some.inj it).symm nb
        | ex er am =>
          rw [e2] at it
          rw [← Option.some.inj it] at h
          exact SOx.step st12 h
        | ok f s3 =>
          rw [e2] at it
          cases f with
          | nx => exact fun σ' z' H' x => ⟨m, Nat.lt_succ_self m, z', s3, st12.trans x, it⟩
          | ct => exact fun σ' z' H' x => ⟨m, Nat.lt_succ_self m, z', s3, st12.trans x, it⟩
          | bk =>
            simp only at it
            rw [← Option.some.inj it] at h
            exact fun σ' z' H' x => h _ _ _ (st12.trans x)
          | rt v =>
            simp only at it
            rw [← Option.some.inj it] at h
            exact fun σ' z' H' w x y => h _ _ _ w (st12.trans x) (y.base st12.ext.there)
end
end Rf

namespace Rf
open PySem PySem.Spec PyProof.Rows L2

inductive Tg where
  | nm (i : Nat) | tp (ts : List Tg)
mutual
def stT : Tg → Dt → S → Option S
  | .nm i, d, s => if i < s.env.length then some { s with env := s.env.set i (.fz d) } else none
  | .tp ts, .tuple ds, s => stTs ts ds s
  | .tp ts, .list ds, s => stTs ts ds s
  | .tp _, _, _ => none
def stTs : List Tg → List Dt → S → Option S
  | [], [], s => some s
  | t :: ts, d :: ds, s => match stT t d s with
    | some s1 => stTs ts ds s1
    | none => none
  | _, _, _ => none
end
mutual
def idxT : Tg → List Nat
  | .nm i => [i]
  | .tp ts => idxTs ts
def idxTs : List Tg → List Nat
  | [] => []
  | t :: ts => idxT t ++ idxTs ts
end
structure Ret (B : Bs) (z : Fz) (H : Hp) (ix : List Nat) (σ : L2.St) (s : S) (σ' : L2.St) (s' : S) : Prop where
  good : Good B z H σ' s'
  own : ∀ p, Own σ' s'.env z p → Own σ s.env z p
  len : σ'.length = σ.length
  same : ∀ j, j ∉ ix → σ'[j]? = σ[j]?
  am : s'.am = s.am
section
variable {B : Bs} {z : Fz} {H : Hp} {σ σ1 σ2 : L2.St} {s s1 s2 : S} {ix jx : List Nat}
theorem Ret.refl (g : Good B z H σ s) : Ret B z H [] σ s σ s := ⟨g, fun _ h => h, rfl, fun _ _ => rfl, rfl⟩
theorem Ret.trans (a : Ret B z H ix σ s σ1 s1) (b : Ret B z H jx σ1 s1 σ2 s2) : Ret B z H (ix ++ jx) σ s σ2 s2 :=
  ⟨b.good, fun p h => a.own p (b.own p h), b.len.trans a.len, fun j h => by rw [List.mem_append, not_or] at h; exact (b.same j h.2).trans (a.same j h.1), b.am.trans a.am⟩
def rdT (B : Bs) (t : Tg) : TG := fun v σ H Q => ∃ z s d s', Good B z H σ s ∧ Rep B z v d ∧ stT t d s = some s' ∧ ∀ σ', Ret B z H (idxT t) σ s σ' s' → Q σ' H
def rdTs (B : Bs) (ts : List Tg) : TGs := fun vs σ H Q => ∃ z s ds s', Good B z H σ s ∧ Reps B z vs ds ∧ stTs ts ds s = some s' ∧ ∀ σ', Ret B z H (idxTs ts) σ s σ' s' → Q σ' H
theorem ret_nm {i : Nat} {v : V} {d : Dt} (g : Good B z H σ s) (r : Rep B z v d) : Ret B z H [i] σ s (σ.set i (some v)) { s with env := s.env.set i (.fz d) } :=
  ⟨g.setFz r, fun p h => own_setFz h, by simp, fun j h => by
    have ne : i ≠ j := fun e => h (by simp [e])
    rw [List.getElem?_set_ne ne], rfl⟩
end
section
variable {X : Cx} {e : Expr} {es : List Expr} {pos : Pos}
theorem t_name {i : Nat} {x : Str} (hN : X.N.Nodup) (hi : X.N[i]? = some x) (hx : Loc X.env.scope x) (hf : X.fn x = true ∨ X.env.scope.names.lookup x = some .local) : PG X (.Name x pos) (rdT (bs X) (.nm i)) :=
  ⟨fun pins s σ H v u Q I r h => (pg_name hN hi hx hf).run pins s σ H v u Q I r (by
    obtain ⟨z, t, d, s', g, rd, e, k⟩ := h
    simp only [stT] at e
    split at e
    · cases e; exact k _ (ret_nm g rd)
    · cases e)⟩
theorem ts_nil : PGs X [] (rdTs (bs X) []) :=
  ⟨fun pins s σ H vs us Q I r h => pgs_nil.run pins s σ H vs us Q I r (by
    obtain ⟨z, t, ds, s', g, rd, e, k⟩ := h
    cases ds with
    | nil => cases rd; cases e; exact ⟨rfl, k _ (.refl g)⟩
    | cons _ _ => cases e)⟩
theorem ts_cons {t : Tg} {ts : List Tg} (h1 : PG X e (rdT (bs X) t)) (h2 : PGs X es (rdTs (bs X) ts)) (hs : (assignEach (e :: es) X.env).map (·.2) = assign e X.env :: (assignEach es X.env).map (·.2)) : PGs X (e :: es) (rdTs (bs X) (t :: ts)) :=
  ⟨fun pins s σ H vs us Q I r h => (pgs_cons h1 h2 hs).run pins s σ H vs us Q I r (by
    obtain ⟨z, u, ds, s', g, rd, e, k⟩ := h
    cases ds with
    | nil => cases e
    | cons d ds =>
      cases rd with
      | cons r1 r2 =>
        simp only [stTs] at e
        cases q : stT t d u with
        | none => rw [q] at e; cases e
        | some s1 =>
          rw [q] at e
          refine ⟨_, _, rfl, z, u, d, s1, g, r1, q, fun σ1 R1 => ⟨z, s1, ds, s', R1.good, r2, e, fun σ2 R2 => k σ2 (R1.trans R2)⟩⟩)⟩
theorem stTs_len : ∀ {ts : List Tg} {ds : List Dt} {s s' : S}, stTs ts ds s = some s' → ds.length = ts.length
  | [], [], _, _, _ => rfl
  | t :: ts, d :: ds, s, s', e => by
    simp only [stTs] at e
    cases q : stT t d s with
    | none => rw [q] at e; cases e
    | some s1 => rw [q] at e; simp [stTs_len e]
  | [], _ :: _, _, _, e => by simp [stTs] at e
  | _ :: _, [], _, _, e => by simp [stTs] at e
theorem pg_or {t t' : TG} (h : PG X e t) (h' : PG X e t') : PG X e (fun v σ H Q => t v σ H Q ∨ t' v σ H Q) := ⟨fun pins s σ H v u Q I r q => by
  rcases q with q | q
  · exact h.run pins s σ H v u Q I r q
  · exact h'.run pins s σ H v u Q I r q⟩
theorem t_tup {ts : List Tg} {k : Nat} (hc : X.calm = true) (h : PGs X es (rdTs (bs X) ts)) (hn : (assignEach es X.env).length = ts.length) (hst : (assignEach es X.env).findIdx? (·.1) = none) : PG X (.Tuple es k pos) (rdT (bs X) (.tp ts)) :=
  ⟨fun pins s σ H v u Q I r hh => (pg_or (pg_tup hc h hn hst) (pg_unl hc h hn hst)).run pins s σ H v u Q I r (by
    obtain ⟨z, t, d, s', g, rd, e, k⟩ := hh
    cases d with
    | tuple ds =>
      simp only [stT] at e
      obtain ⟨a, xs, ev, h1, r1⟩ := rd.tup_inv
      exact .inl ⟨a, xs, ev, sqT_mono g.sub h1, by rw [r1.length]; exact stTs_len e, z, t, ds, s', g, r1, e, k⟩
    | list ds =>
      simp only [stT] at e
      obtain ⟨a, xs, ev, h1, r1⟩ := rd.lst_inv
      exact .inr ⟨a, xs, ev, .of (g.sub _ _ h1), by rw [r1.length]; exact stTs_len e, z, t, ds, s', g, r1, e, k⟩
    | _ => cases e)⟩
end

def Walks (B : Bs) (z : Fz) (J : It) (ds : List Dt) : Prop := ∀ (z' : Fz) (i : Nat) (H : Hp), z.le z' → Sub z' H → (ds.length ≤ i → J.stop i H) ∧ ∀ d, ds[i]? = some d → J.go i H ∧ ∀ x H', J.yld i H x H' →
  (H' = H ∧ Rep B z' x d) ∨ ∃ T vs ds', x = .ref T ∧ d = .tuple ds' ∧ H T = none ∧ H' = upd H T (.tup vs) ∧ ds'.all pairI = false ∧ Reps B z' vs ds'
def ROI (B : Bs) (W : WX) (σ : L2.St) (z : Fz) (H : Hp) (s : S) (r : R (List Dt)) (Q : It → Hp → Prop) : Prop := match r with
  | .ok ds s' => ∀ z' H' J, Stp B σ z H s z' H' s' → Walks B z' J ds → Q J H'
  | .ex e am => ROx B W σ z H s e am
  | .bad => False
def rdI (B : Bs) (W : WX) (m : M (List Dt)) : TI := fun σ H Q => ∃ z s, Good B z H σ s ∧ ROI B W σ z H s (m s) Q
theorem walk_got {B : Bs} {σ : L2.St} {z : Fz} {H H' : Hp} {s : S} {x : V} {d : Dt} (g : Good B z H σ s) (h : (H' = H ∧ Rep B z x d) ∨ ∃ T vs ds', x = .ref T ∧ d = .tuple ds' ∧ H T = none ∧ H' = upd H T (.tup vs) ∧ ds'.all pairI = false ∧ Reps B z vs ds') :
    ∃ z', Stp B σ z H s z' H' s ∧ Rep B z' x d := by
  rcases h with ⟨rfl, r⟩ | ⟨T, vs, ds', rfl, rfl, hT, rfl, np, r⟩
  · exact ⟨z, .refl g, r⟩
  · have f : z.F T = none := by
      cases e : z.F T with
      | none => rfl
      | some o => rw [g.sub T o e] at hT; cases hT
    have g1 := g.laid (o := .tup vs) hT
    have e1 : Ext (Own σ s.env z) z H z (upd H T (.tup vs)) := .laid hT
    refine ⟨z.put T (.tup vs), ⟨⟨e1.keep, e1.there, Fz.put_le f, fun a u y => ?_, fun _ _ x => .inl x⟩, g1.freeze upd_same f (g.own_new hT), fun q x => .inl x⟩, .tup (.inl (.inl put_same)) (.inr np) (r.mono (Fz.put_le f))⟩
    by_cases q : a = T
    · rw [q]; exact .inr (.inr hT)
    · have y' : upd z.F T (.tup vs) a = some u := y
      rw [upd_ne q] at y'; exact .inl y'

def forL (t : Tg) (b : M Flo) : List Dt → M Flo
  | [] => sNx
  | d :: ds => fun s => match stT t d s with
    | none => .bad
    | some s1 => (b s1).bind fun f s2 => match f with
      | .nx => forL t b ds s2
      | .ct => forL t b ds s2
      | .bk => .ok .nx s2
      | .rt v => .ok (.rt v) s2
def sFor (mi : M (List Dt)) (t : Tg) (b : M Flo) : M Flo := fun s => (mi s).bind fun ds s1 => forL t b ds s1
theorem Ret.toS {B : Bs} {z : Fz} {H : Hp} {ix : List Nat} {σ σ' : L2.St} {s s' : S} (h : Ret B z H ix σ s σ' s') : StpS B σ z H s σ' z H s' := ⟨.refl _ _ _, h.good, fun p q => .inl (h.own p q), h.len⟩
section
variable {X : Cx} {W : WX} {pos : Pos}
theorem ROI.bindS {B : Bs} {σ : L2.St} {z : Fz} {H : Hp} {s : S} {r : R (List Dt)} {f : List Dt → S → R Flo} {D : Ends} (h : SO B W σ z H s (r.bind f) D) :
    ROI B W σ z H s r (fun J H1 => ∃ z1 s1 ds, Stp B σ z H s z1 H1 s1 ∧ Walks B z1 J ds ∧ SO B W σ z H s (f ds s1) D) := by
  cases r with
  | ok val s' => exact fun z' H' v x y => ⟨z', s', val, x, y, h⟩
  | ex e am => exact SOx.toE h
  | bad => exact h
theorem ROI.mono {B : Bs} {σ : L2.St} {z : Fz} {H : Hp} {s : S} {r : R (List Dt)} {Q Q' : It → Hp → Prop} (h : ROI B W σ z H s r Q) (q : ∀ v H', Q v H' → Q' v H') : ROI B W σ z H s r Q' := by
  cases r with
  | ok val s' => exact fun z' H' v x y => q v H' (h z' H' v x y)
  | ex e am => exact h
  | bad => exact h
theorem s_for {tg iter : Expr} {body : List Stmt} {mi : M (List Dt)} {t : Tg} {mb : M Flo} (hp : PassesOwn (model X.prog X.w) X.A X.env X.xe) (hc : X.calm = true) (hi : PI X tg iter (rdI (bs X) W mi)) (hg : PG X tg (rdT (bs X) t)) (hb : PSs X body (rdS (bs X) W mb))
    (hs : ∀ x, foldedSetIterable iter X.env x = pure x) : PS X (.For tg iter body [] pos) (rdS (bs X) W (sFor mi t mb)) := by
  refine ps_weak (ps_for hp hc hi hg hb hs) fun D σ H ⟨z, s, g, h⟩ => ?_
  refine ⟨z, s, g, (ROI.bindS h).mono fun J H1 ⟨z1, s1, ds, st1, wk, h1⟩ => ?_⟩
  refine ⟨fun i m σ2 H2 => m = ds.length - i ∧ i ≤ ds.length ∧ ∃ z2 s2, StpS (bs X) σ z H s σ2 z2 H2 s2 ∧ z1.le z2 ∧ SO (bs X) W σ z H s (forL t mb (ds.drop i) s2) D, ⟨ds.length, by simp, Nat.zero_le _, z1, s1, st1.toS, .refl _, by simpa using h1⟩, ?_⟩
  rintro i m σ2 H2 ⟨rfl, hi, z2, s2, st2, le, h2⟩
  obtain ⟨w1, w2⟩ := wk z2 i H2 le st2.good.sub
  by_cases hlt : i < ds.length
  · have hd : ds[i]? = some ds[i] := by simp [hlt]
    obtain ⟨go, yl⟩ := w2 _ hd
    rw [List.drop_eq_getElem_cons hlt] at h2
    simp only [forL] at h2
    refine .inr ⟨go, fun σ' H' => i + 1 ≤ ds.length ∧ ∃ z2 s2, StpS (bs X) σ z H s σ' z2 H' s2 ∧ z1.le z2 ∧ SO (bs X) W σ z H s (forL t mb (ds.drop (i + 1)) s2) D, fun σ' H' q => ⟨ds.length - (i + 1), by omega, rfl, q⟩, fun x H' y => ?_⟩
    obtain ⟨z3, st3, r3⟩ := walk_got st2.good (yl x H' y)
    cases q : stT t ds[i] s2 with
    | none => rw [q] at h2; exact h2.elim
    | some s3 =>
      rw [q] at h2
      simp only at h2
      refine ⟨z3, s2, ds[i], s3, st3.good, r3, q, fun σ3 R3 => ⟨z3, s3, R3.good, ?_⟩⟩
      have st4 := (st2.trans st3.toS).trans R3.toS
      have le3 : z1.le z3 := le.trans st3.ext.le
      cases e2 : mb s3 with
      | bad => rw [e2] at h2; exact h2
      | ex er am => rw [e2] at h2; exact SOx.step st4 h2
      | ok f s4 =>
        rw [e2] at h2
        rw [R.bind_ok] at h2
        cases f with
        | nx => exact fun σ' z' H' w => ⟨hlt, z', s4, st4.trans w, le3.trans w.ext.le, h2⟩
        | ct => exact fun σ' z' H' w => ⟨hlt, z', s4, st4.trans w, le3.trans w.ext.le, h2⟩
        | bk => exact fun σ' z' H' w => h2 _ _ _ (st4.trans w)
        | rt v => exact fun σ' z' H' w x y => h2 _ _ _ w (st4.trans x) (y.base st4.ext.there)
  · have e : i = ds.length := by omega
    subst e
    rw [List.drop_length] at h2
    exact .inl ⟨w1 (Nat.le_refl _), h2 _ _ _ st2⟩

theorem walks_list {B : Bs} {z : Fz} {a : Addr} {xs : List V} {ds : List Dt} (h : z.F a = some (.lst xs)) (r : Reps B z xs ds) : Walks B z (Itl B.K a) ds := by
  intro z' i H le sub
  have hH : SqL B.K H a xs := .of (sub _ _ (le.F _ _ h))
  refine ⟨fun hi => ⟨xs, hH, by rw [r.length]; exact hi⟩, fun d hd => ?_⟩
  obtain ⟨v, hv, rv⟩ := r.getD hd
  exact ⟨⟨xs, v, hH, hv⟩, fun x H' y => .inl ⟨y.1, by have := y.2 xs hH; rw [hv] at this; cases this; exact rv.mono le⟩⟩
theorem walks_tup {B : Bs} {z : Fz} {a : Addr} {xs : List V} {ds : List Dt} (h : SqT B.K z.F a xs) (r : Reps B z xs ds) : Walks B z (Itt B.K a) ds := by
  intro z' i H le sub
  have hH : SqT B.K H a xs := sqT_mono sub (sqT_mono le.F h)
  refine ⟨fun hi => ⟨xs, hH, by rw [r.length]; exact hi⟩, fun d hd => ?_⟩
  obtain ⟨v, hv, rv⟩ := r.getD hd
  exact ⟨⟨xs, v, hH, hv⟩, fun x H' y => .inl ⟨y.1, by have := y.2 xs hH; rw [hv] at this; cases this; exact rv.mono le⟩⟩
def rangeD (lo : Int) (n : Nat) : List Dt := (List.range n).map fun i => .int (lo + (i : Nat))
theorem walks_range {B : Bs} {z : Fz} {lo : Int} {n : Nat} : Walks B z (Itr lo n) (rangeD lo n) := by
  intro z' i H le sub
  have hl : (rangeD lo n).length = n := by simp [rangeD]
  refine ⟨fun hi => by rw [hl] at hi; exact hi, fun d hd => ?_⟩
  have hi : i < n := by rw [← hl]; exact (List.getElem?_eq_some_iff.mp hd).1
  have e : d = .int (lo + i) := by
    unfold rangeD at hd
    rw [List.getElem?_map, List.getElem?_range hi] at hd
    exact (Option.some.inj hd).symm
  exact ⟨hi, fun x H' y => .inl ⟨y.1, by rw [y.2, e]; exact .int _⟩⟩
theorem pi_seq {tg l : Expr} {tl : TE} (hl : PE X l tl) : PI X tg l (fun σ H R => tl σ H fun x H1 => (∃ a, x = .ref a ∧ (∃ xs, SqL X.K H1 a xs) ∧ R (Itl X.K a) H1) ∨ ∃ a, x = .ref a ∧ (∃ xs, SqT X.K H1 a xs) ∧ R (Itt X.K a) H1) := by
  refine ⟨fun pins s σ H R I h => ?_⟩
  refine thn (hl.run pins s σ H _ I h) fun v s1 ⟨x, H1, I1, r1, q1⟩ => ?_
  rcases q1 with ⟨a, e, ⟨xs, hq⟩, q⟩ | ⟨a, e, ⟨xs, hq⟩, q⟩
  · subst e
    cases r1
    obtain ⟨its, rv, p, hz⟩ := I1.list hq
    refine wpAny_pyIter_list p.isList ?_
    refine ⟨s1.heap.objs.size, [s1.heap.objs.size], _, _, H1, rfl, I1.kept (t' := s1.toks) fun b o e => Heap.get?_push_of_some _ e, turn_list a _, ⟨_, Heap.get?_push_size _ rfl, rfl, rfl⟩, fun b hb => ?_, q⟩
    have e : b = s1.heap.objs.size := by simpa using hb
    subst e
    exact I1.fpOk (Nat.le_refl _) (I1.hok.fresh (Nat.le_refl _))
  · subst e
    cases r1
    obtain ⟨its, rv, p, hz⟩ := I1.tuple hq
    refine wpAny_pyIter_tuple (show s1.heap.IsTuple a its.toArray from p) ?_
    refine ⟨s1.heap.objs.size, [s1.heap.objs.size], _, _, H1, rfl, I1.kept (t' := s1.toks) fun b o e => Heap.get?_push_of_some _ e, turn_tuple a _, ⟨_, Heap.get?_push_size _ rfl, rfl, rfl⟩, fun b hb => ?_, q⟩
    have e : b = s1.heap.objs.size := by simpa using hb
    subst e
    exact I1.fpOk (Nat.le_refl _) (I1.hok.fresh (Nat.le_refl _))
def iSeq (m : M Val) : M (List Dt) := fun s => (m s).bind fun v s1 => match frz s1 v with
  | some (.list ds, s2) => .ok ds s2
  | some (.tuple ds, s2) => .ok ds s2
  | _ => .bad
theorem RO.bindI {B : Bs} {σ : L2.St} {z : Fz} {H : Hp} {s : S} {r : R Val} {f : Val → S → R (List Dt)} {Q : It → Hp → Prop} (h : ROI B W σ z H s (r.bind f) Q) :
    RO B W σ z H s r (fun v H1 => ∃ z1 s1 val, Stp B σ z H s z1 H1 s1 ∧ VOk B σ H z1 H1 s1 v val ∧ ROI B W σ z H s (f val s1) Q) := by
  cases r with
  | ok val s' => exact fun z' H' v x y => ⟨z', s', val, x, y, h⟩
  | ex e am => exact h
  | bad => exact h
theorem i_seq {tg l : Expr} {m : M Val} (hl : PE X l (rdE (bs X) W m)) : PI X tg l (rdI (bs X) W (iSeq m)) := by
  refine ⟨fun pins s σ H R I ⟨z, u, g, h⟩ => (pi_seq hl).run pins s σ H R I ⟨z, u, g, (RO.bindI h).mono fun v H1 ⟨z1, s1, val, st1, v1, h1⟩ => ?_⟩⟩
  cases q : frz s1 val with
  | none => rw [q] at h1; exact h1.elim
  | some x =>
    obtain ⟨d, s2⟩ := x
    rw [q] at h1
    obtain ⟨z2, st2, r2, _⟩ := frz_ok st1 v1 q
    cases d with
    | list ds =>
      obtain ⟨a, xs, e, hF, r⟩ := r2.lst_inv
      exact .inl ⟨a, e, ⟨xs, .of (st2.good.sub _ _ hF)⟩, h1 z2 H1 _ st2 (walks_list (B := bs X) hF r)⟩
    | tuple ds =>
      obtain ⟨a, xs, e, hF, r⟩ := r2.tup_inv
      exact .inr ⟨a, e, ⟨xs, sqT_mono st2.good.sub hF⟩, h1 z2 H1 _ st2 (walks_tup (B := bs X) hF r)⟩
    | _ => exact h1.elim
def rgOk (i : Int) : Prop := -(2 ^ 62) ≤ i ∧ i < 2 ^ 62
noncomputable instance (i : Int) : Decidable (rgOk i) := Classical.propDecidable _
noncomputable def iRange1 (ms : M (List Val)) : M (List Dt) := fun s => (ms s).bind fun vs s1 => match peeks s1 vs with
  | some [.int j] => if rgOk j then .ok (rangeD 0 j.toNat) s1 else .bad
  | _ => .bad
noncomputable def iRange2 (ms : M (List Val)) : M (List Dt) := fun s => (ms s).bind fun vs s1 => match peeks s1 vs with
  | some [.int i, .int j] => if rgOk i ∧ rgOk j then .ok (rangeD i (j - i).toNat) s1 else .bad
  | _ => .bad
theorem ROL.bindI {B : Bs} {σ : L2.St} {z : Fz} {H : Hp} {s : S} {r : R (List Val)} {f : List Val → S → R (List Dt)} {Q : It → Hp → Prop} (h : ROI B W σ z H s (r.bind f) Q) :
    ROL B W σ z H s r (fun v H1 => ∃ z1 s1 vals, Stp B σ z H s z1 H1 s1 ∧ VOks B σ H z1 H1 s1 v vals ∧ ROI B W σ z H s (f vals s1) Q) := by
  cases r with
  | ok val s' => exact fun z' H' v x y => ⟨z', s', val, x, y, h⟩
  | ex e am => exact h
  | bad => exact h
theorem ROI.peeks {B : Bs} {σ : L2.St} {z z1 : Fz} {H H1 : Hp} {s s1 : S} {vs : List V} {vals : List Val} {f : List Dt → R (List Dt)} {Q : It → Hp → Prop} (st : Stp B σ z H s z1 H1 s1) (vk : VOks B σ H z1 H1 s1 vs vals)
    (h : ROI B W σ z H s (match peeks s1 vals with | some ds => f ds | none => .bad) Q) : ∃ ds, Nows B z1 H1 vs ds ∧ ROI B W σ z H s (f ds) Q := by
  cases q : Rf.peeks s1 vals with
  | none => rw [q] at h; exact h.elim
  | some ds => rw [q] at h; exact ⟨ds, peeks_now st.good vk q, h⟩
theorem i_range1 {tg a : Expr} {p : Pos} {ms : M (List Val)} (hg : Gl X "range") (hm : X.mg "range" = none) (ha : PA X [a] (rdA (bs X) W ms)) (hs : starEach [a] X.env = [(false, eval a X.env)]) : PI X tg (.Call (.Name "range" p) [a] [] pos) (rdI (bs X) W (iRange1 ms)) := by
  refine ⟨fun pins s σ H R I ⟨z, u, g, h⟩ => (L2.pi_range1 hg hm ha hs).run pins s σ H R I ⟨z, u, g, (ROL.bindI h).mono fun vs H1 ⟨z1, s1, vals, st1, v1, h1⟩ => ?_⟩⟩
  cases q : peeks s1 vals with
  | none => rw [q] at h1; exact h1.elim
  | some ds =>
    rw [q] at h1
    have nw := peeks_now st1.good v1 q
    match ds, nw, h1 with
    | [.int j], nw, h1 =>
      simp only at h1
      split at h1
      · rename_i hj
        obtain ⟨v, rfl, e⟩ := nows_one nw
        rw [e.int]
        exact ⟨j, rfl, hj.1, hj.2, h1 z1 H1 _ st1 walks_range⟩
      · exact h1.elim
    | [], _, h1 => exact h1.elim
    | .none :: _, _, h1 => exact h1.elim
    | .bool _ :: _, _, h1 => exact h1.elim
    | .str _ :: _, _, h1 => exact h1.elim
    | .list _ :: _, _, h1 => exact h1.elim
    | .tuple _ :: _, _, h1 => exact h1.elim
    | .dict _ :: _, _, h1 => exact h1.elim
    | .int _ :: _ :: _, _, h1 => exact h1.elim
theorem i_range2 {tg a b : Expr} {p : Pos} {ms : M (List Val)} (hg : Gl X "range") (hm : X.mg "range" = none) (ha : PA X [a, b] (rdA (bs X) W ms)) (hs : starEach [a, b] X.env = [(false, eval a X.env), (false, eval b X.env)]) (hs2 : starEach [b] X.env = [(false, eval b X.env)]) : PI X tg (.Call (.Name "range" p) [a, b] [] pos) (rdI (bs X) W (iRange2 ms)) := by
  refine ⟨fun pins s σ H R I ⟨z, u, g, h⟩ => (L2.pi_range2 hg hm ha hs hs2).run pins s σ H R I ⟨z, u, g, (ROL.bindI h).mono fun vs H1 ⟨z1, s1, vals, st1, v1, h1⟩ => ?_⟩⟩
  cases q : peeks s1 vals with
  | none => rw [q] at h1; exact h1.elim
  | some ds =>
    rw [q] at h1
    have nw := peeks_now st1.good v1 q
    split at h1
    · rename_i i j hds
      cases hds
      split at h1
      · rename_i hj
        obtain ⟨v, w, rfl, e1, e2⟩ := nows_two nw
        rw [e1.int, e2.int]
        exact ⟨i, j, rfl, ⟨hj.1.1, hj.1.2, hj.2.1, hj.2.2⟩, h1 z1 H1 _ st1 walks_range⟩
      · exact h1.elim
    · exact h1.elim
end
end Rf

namespace Rf
open PySem PySem.Spec PyProof.Rows L2

def wipeE (env : List Slot) : List Nat → List Slot
  | [] => env
  | v :: vs => (wipeE env vs).set v .no
def kf : Option Slot → Slot
  | some (.fz d) => .fz d
  | _ => .no
def resE (e0 e : List Slot) : List Nat → List Slot
  | [] => e
  | v :: vs => (resE e0 e vs).set v (kf e0[v]?)
theorem wipe_get {σ : L2.St} {i : Nat} : ∀ {vs : List Nat}, (wipe σ vs)[i]? = if i ∈ vs then (σ[i]?).map fun _ => none else σ[i]?
  | [] => by simp [wipe]
  | v :: vs => by
    unfold wipe
    by_cases e : v = i
    · subst e
      rw [List.getElem?_set]
      simp only [if_true, wipe_length, List.mem_cons, true_or]
      by_cases h : v < σ.length
      · simp [h]
      · simp [h, List.getElem?_eq_none (Nat.le_of_not_lt h)]
    · rw [List.getElem?_set_ne e, wipe_get (vs := vs)]
      simp only [List.mem_cons, Ne.symm e, false_or]
theorem wipeE_length (env : List Slot) : ∀ vs : List Nat, (wipeE env vs).length = env.length
  | [] => rfl
  | v :: vs => by unfold wipeE; rw [List.length_set, wipeE_length env vs]
theorem wipeE_get {env : List Slot} {i : Nat} : ∀ {vs : List Nat}, (wipeE env vs)[i]? = if i ∈ vs then (env[i]?).map fun _ => Slot.no else env[i]?
  | [] => by simp [wipeE]
  | v :: vs => by
    unfold wipeE
    by_cases e : v = i
    · subst e
      rw [List.getElem?_set]
      simp only [if_true, wipeE_length, List.mem_cons, true_or]
      by_cases h : v < env.length
      · simp [h]
      · simp [h, List.getElem?_eq_none (Nat.le_of_not_lt h)]
    · rw [List.getElem?_set_ne e, wipeE_get (vs := vs)]
      simp only [List.mem_cons, Ne.symm e, false_or]
theorem resE_length (e0 e : List Slot) : ∀ vs : List Nat, (resE e0 e vs).length = e.length
  | [] => rfl
  | v :: vs => by unfold resE; rw [List.length_set, resE_length e0 e vs]
theorem resE_get {e0 e : List Slot} {i : Nat} : ∀ {vs : List Nat}, (resE e0 e vs)[i]? = if i ∈ vs then (e[i]?).map fun _ => kf e0[i]? else e[i]?
  | [] => by simp [resE]
  | v :: vs => by
    unfold resE
    by_cases h' : v = i
    · subst h'
      rw [List.getElem?_set]
      simp only [if_true, resE_length, List.mem_cons, true_or]
      by_cases h : v < e.length
      · simp [h]
      · simp [h, List.getElem?_eq_none (Nat.le_of_not_lt h)]
    · rw [List.getElem?_set_ne h', resE_get (vs := vs)]
      simp only [List.mem_cons, Ne.symm h', false_or]
def S.wp (s : S) (own : List Nat) : S := { s with env := wipeE s.env own }
section
variable {B : Bs} {z z' : Fz} {H H' : Hp} {σ : L2.St} {s s' : S} {own : List Nat}
theorem slotAt_wipe {σ' : L2.St} {i : Nat} {p : Addr} (h : SlotAt (wipe σ own) (wipeE s.env own) i p) : SlotAt σ s.env i p ∧ i ∉ own := by
  obtain ⟨d, e1, e2⟩ := h
  rw [wipeE_get] at e1
  rw [wipe_get] at e2
  by_cases hi : i ∈ own
  · rw [if_pos hi] at e1
    cases q : s.env[i]? with
    | none => rw [q] at e1; cases e1
    | some x => rw [q] at e1; cases e1
  · rw [if_neg hi] at e1 e2
    exact ⟨⟨d, e1, e2⟩, hi⟩
theorem own_wipe {p : Addr} (h : Own (wipe σ own) (s.wp own).env z p) : Own σ s.env z p := by
  rcases h with h | ⟨i, h⟩
  · exact .inl h
  · exact .inr ⟨i, (slotAt_wipe (σ' := σ) h).1⟩
theorem Good.wipe (g : Good B z H σ s) : Good B z H (L2.wipe σ own) (s.wp own) := by
  refine ⟨by show (wipeE s.env own).length = _; rw [wipeE_length, wipe_length]; exact g.len, g.sub, fun i x o e1 e2 => ?_, fun i j p h1 h2 => g.apart i j p (slotAt_wipe (σ' := σ) h1).1 (slotAt_wipe (σ' := σ) h2).1, g.amb, fun i p h => g.ambS i p (slotAt_wipe (σ' := σ) h).1⟩
  have e1' : (wipeE s.env own)[i]? = some x := e1
  rw [wipeE_get] at e1'
  rw [wipe_get] at e2
  by_cases hi : i ∈ own
  · rw [if_pos hi] at e1'
    cases q : s.env[i]? with
    | none => rw [q] at e1'; cases e1'
    | some y => rw [q] at e1'; cases e1'; trivial
  · rw [if_neg hi] at e1' e2
    exact g.slots i x o e1' e2
theorem Good.rewipe {σ' : L2.St} (g : Good B z H σ' s) (e : L2.wipe σ' own = L2.wipe σ own) : Good B z H (L2.wipe σ own) (s.wp own) := by
  rw [← e]; exact g.wipe
theorem slotAt_res {e0 : List Slot} {i : Nat} {p : Addr} (hw : s'.env.length = σ.length) (h : SlotAt σ (resE e0 s'.env own) i p) : SlotAt (wipe σ own) s'.env i p := by
  obtain ⟨d, e1, e2⟩ := h
  rw [resE_get] at e1
  by_cases hi : i ∈ own
  · rw [if_pos hi] at e1
    cases q : s'.env[i]? with
    | none => rw [q] at e1; cases e1
    | some x =>
      rw [q] at e1
      exfalso
      simp only [Option.map_some, Option.some.injEq] at e1
      unfold kf at e1
      split at e1 <;> cases e1
  · rw [if_neg hi] at e1
    exact ⟨d, e1, by rw [wipe_get, if_neg hi]; exact e2⟩
theorem Good.restore (g : Good B z H σ s) (g' : Good B z' H' (L2.wipe σ own) s') (le : z.le z') : Good B z' H' σ { s' with env := resE s.env s'.env own } := by
  have hl : s'.env.length = σ.length := by rw [g'.len, wipe_length]
  refine ⟨by show (resE s.env s'.env own).length = _; rw [resE_length]; exact hl, g'.sub, fun i x o e1 e2 => ?_, fun i j p h1 h2 => g'.apart i j p (slotAt_res hl h1) (slotAt_res hl h2), g'.amb, fun i p h => g'.ambS i p (slotAt_res hl h)⟩
  have e1' : (resE s.env s'.env own)[i]? = some x := e1
  rw [resE_get] at e1'
  by_cases hi : i ∈ own
  · rw [if_pos hi] at e1'
    cases q : s'.env[i]? with
    | none => rw [q] at e1'; cases e1'
    | some y =>
      rw [q] at e1'
      simp only [Option.map_some, Option.some.injEq] at e1'
      subst e1'
      cases q2 : s.env[i]? with
      | none => trivial
      | some w =>
        cases w with
        | no => trivial
        | ow d => trivial
        | fz d =>
          obtain ⟨v, ev, r⟩ := g.slots i _ o q2 e2
          exact ⟨v, ev, r.mono le⟩
  · rw [if_neg hi] at e1'
    exact g'.slots i x o e1' (by rw [wipe_get, if_neg hi]; exact e2)
theorem own_res {e0 : List Slot} {p : Addr} (hl : s'.env.length = σ.length) (h : Own σ (resE e0 s'.env own) z p) : Own (wipe σ own) s'.env z p := by
  rcases h with h | ⟨i, h⟩
  · exact .inl h
  · exact .inr ⟨i, slotAt_res hl h⟩
theorem Good.other (g : Good B z H σ s) {p : Addr} {o : HO} (f : z.F p = none) (n : ¬ Own σ s.env z p) : Good B z (upd H p o) σ s := by
  have fp : ∀ {a u}, z.F a = some u → a ≠ p := fun h e => by rw [e, f] at h; cases h
  refine ⟨g.len, fun a u h => by rw [upd_ne (fp h)]; exact g.sub a u h, fun i x q e1 e2 => (g.slots i x q e1 e2).mono (.refl _) fun a u e3 ⟨d, e4⟩ h f' => ⟨?_, f'⟩, g.apart, ?_, g.ambS⟩
  · rw [upd_ne (fun e => n (.inr ⟨i, d, by rw [← e4]; exact e1, by rw [← e]; rw [← e3]; exact e2⟩))]; exact h
  · have := g.amb
    cases e : s.am with
    | none => rw [e] at this; exact this
    | some r =>
      rw [e] at this
      obtain ⟨a, c, e', ne, h1, h2, h3, h4⟩ := this
      have na : a ≠ p := fun y => n (.inl ⟨a, c, e', .inl y.symm⟩)
      have nc : c ≠ p := fun y => n (.inl ⟨a, c, e', .inr y.symm⟩)
      exact ⟨a, c, e', ne, by rw [upd_ne na]; exact h1, by rw [upd_ne nc]; exact h2, h3, h4⟩
theorem Ext.other {ow : Addr → Prop} {z1 : Fz} {H1 : Hp} {p : Addr} {o : HO} (a : Ext ow z H z1 H1) (hp : H p = none) : Ext ow z H z1 (upd H1 p o) :=
  ⟨fun x u h n => by rw [upd_ne (ne_of_none h hp)]; exact a.keep x u h n, fun x h => by
    by_cases e : x = p
    · rw [e, upd_same] at h; cases h
    · rw [upd_ne e] at h; exact a.there x h, a.le, a.new, a.newS⟩
end

def compL (own : List Nat) (t : Tg) (tt : M Bool) (te : M Val) : List Dt → List Dt → S → Option (List Dt × S)
  | [], acc, s => some (acc, s)
  | d :: ds, acc, s => match stT t d s with
    | none => none
    | some s1 => match tt s1 with
      | .ok true s2 => match te s2 with
        | .ok v s3 => match frz s3 v with
          | some (dv, s4) => if acc.length < sizeLine then compL own t tt te ds (acc ++ [dv]) (s4.wp own) else none
          | none => none
        | _ => none
      | .ok false s2 => compL own t tt te ds acc (s2.wp own)
      | _ => none
def eComp (own : List Nat) (mi : M (List Dt)) (t : Tg) (tt : M Bool) (te : M Val) : M Val := fun s => (mi s).bind fun ds s1 => match compL own t tt te ds [] (s1.wp own) with
  | some (acc, s2) => .ok (.ow (.list acc)) { s2 with env := resE s1.env s2.env own }
  | none => .bad
abbrev WF : WX := fun _ _ _ _ => False
def bYes : M Bool := fun s => .ok true s
section
variable {X : Cx} {W : WX} {pos : Pos}
theorem ROI.bindE {B : Bs} {σ : L2.St} {z : Fz} {H : Hp} {s : S} {r : R (List Dt)} {f : List Dt → S → R Val} {Q : VK} (h : RO B W σ z H s (r.bind f) Q) :
    ROI B W σ z H s r (fun J H1 => ∃ z1 s1 ds, Stp B σ z H s z1 H1 s1 ∧ Walks B z1 J ds ∧ RO B W σ z H s (f ds s1) Q) := by
  cases r with
  | ok val s' => exact fun z' H' v x y => ⟨z', s', val, x, y, h⟩
  | ex e am => exact h
  | bad => exact h
theorem wipe_set {σ : L2.St} : ∀ {own : List Nat} {i : Nat} {v : Option V}, i ∈ own → wipe (σ.set i v) own = wipe σ own := by
  intro own i v hi
  refine List.ext_getElem? fun j => ?_
  rw [wipe_get, wipe_get]
  by_cases hj : j ∈ own
  · rw [if_pos hj, if_pos hj]
    by_cases e : i = j
    · subst e
      by_cases hl : i < σ.length
      · rw [List.getElem?_set_self hl]; simp [hl]
      · rw [List.getElem?_eq_none (by simpa using Nat.le_of_not_lt hl), List.getElem?_eq_none (Nat.le_of_not_lt hl)]
    · rw [List.getElem?_set_ne e]
  · rw [if_neg hj, if_neg hj, List.getElem?_set_ne (show i ≠ j from fun e => hj (by rw [← e]; exact hi))]
theorem wipe_ret {B : Bs} {z : Fz} {H : Hp} {ix : List Nat} {σ σ' : L2.St} {s s' : S} {own : List Nat} (h : Ret B z H ix σ s σ' s') (hs : ∀ j ∈ ix, j ∈ own) : wipe σ' own = wipe σ own := by
  refine List.ext_getElem? fun j => ?_
  rw [wipe_get, wipe_get]
  by_cases hj : j ∈ own
  · rw [if_pos hj, if_pos hj]
    by_cases hl : j < σ.length
    · have hl' : j < σ'.length := by rw [h.len]; exact hl
      rw [List.getElem?_eq_getElem hl', List.getElem?_eq_getElem hl]; rfl
    · rw [List.getElem?_eq_none (by rw [h.len]; exact Nat.le_of_not_lt hl), List.getElem?_eq_none (Nat.le_of_not_lt hl)]
  · rw [if_neg hj, if_neg hj, h.same j fun y => hj (hs j y)]
theorem wipe_wipe {σ : L2.St} {own : List Nat} : wipe (wipe σ own) own = wipe σ own := by
  refine List.ext_getElem? fun j => ?_
  rw [wipe_get, wipe_get]
  by_cases hj : j ∈ own
  · rw [if_pos hj, if_pos hj]
    cases σ[j]? <;> rfl
  · rw [if_neg hj, if_neg hj]
theorem rd_comp {B : Bs} {own : List Nat} {mi : M (List Dt)} {t : Tg} {tt : M Bool} {te : M Val} (hown : ∀ j ∈ idxT t, j ∈ own) : ∀ σ H Q, rdE B W (eComp own mi t tt te) σ H Q → tLc (rdI B W mi) (rdT B t) (rdB B WF tt) (rdE B WF te) own σ H Q := by
  rintro σ H Q ⟨z, s, g, h⟩
  refine ⟨z, s, g, (ROI.bindE h).mono fun J H1 ⟨z1, s1, ds, st1, wk, h1⟩ D hD => ?_⟩
  cases q : compL own t tt te ds [] (s1.wp own) with
  | none => rw [q] at h1; exact h1.elim
  | some x =>
    obtain ⟨accF, sF⟩ := x
    rw [q] at h1
    have hD0 : H D = none := st1.ext.there D hD
    have fD1 : z1.F D = none := by
      cases e : z1.F D with
      | none => rfl
      | some o => rw [st1.good.sub D o e] at hD; cases hD
    have nD1 : ¬ Own σ s1.env z1 D := st1.good.own_new hD
    refine ⟨fun i m H2 => m = ds.length - i ∧ i ≤ ds.length ∧ ∃ z2 s2 vs acc, Good B z2 H2 (wipe σ own) s2 ∧ Ext (Own σ s1.env z1) z1 H1 z2 H2 ∧ OwnSub (Own σ s1.env z1) H1 (Own (wipe σ own) s2.env z2) ∧
      H2 D = some (.lst vs) ∧ Reps B z2 vs acc ∧ z2.F D = none ∧ ¬ Own (wipe σ own) s2.env z2 D ∧ compL own t tt te (ds.drop i) acc s2 = some (accF, sF), ⟨ds.length, by simp, Nat.zero_le _, ?_⟩, ?_⟩
    · refine ⟨z1, s1.wp own, [], [], ?_, (Ext.refl _ _ _).other hD, fun p y => .inl (own_wipe y), upd_same, .nil, fD1, fun y => nD1 (own_wipe y), by simpa using q⟩
      exact st1.good.wipe.other fD1 fun y => nD1 (own_wipe y)
    · rintro i m H2 ⟨rfl, hi, z2, s2, vs, acc, g2, ex2, sub2, hD2, r2, f2, n2, c2⟩
      obtain ⟨w1, w2⟩ := wk z2 i H2 ex2.le g2.sub
      by_cases hlt : i < ds.length
      · have hd : ds[i]? = some ds[i] := by simp [hlt]
        obtain ⟨go, yl⟩ := w2 _ hd
        rw [List.drop_eq_getElem_cons hlt] at c2
        simp only [compL] at c2
        refine .inr ⟨go, fun H' => ∃ m', m' < ds.length - i ∧ m' = ds.length - (i + 1) ∧ i + 1 ≤ ds.length ∧ ∃ z2 s2 vs acc, Good B z2 H' (wipe σ own) s2 ∧ Ext (Own σ s1.env z1) z1 H1 z2 H' ∧ OwnSub (Own σ s1.env z1) H1 (Own (wipe σ own) s2.env z2) ∧
          H' D = some (.lst vs) ∧ Reps B z2 vs acc ∧ z2.F D = none ∧ ¬ Own (wipe σ own) s2.env z2 D ∧ compL own t tt te (ds.drop (i + 1)) acc s2 = some (accF, sF), fun H' q => q, fun x H' y => ?_⟩
        obtain ⟨z3, st3, r3⟩ := walk_got g2 (yl x H' y)
        cases q2 : stT t ds[i] s2 with
        | none => rw [q2] at c2; cases c2
        | some s3 =>
          rw [q2] at c2
          simp only at c2
          refine ⟨z3, s2, ds[i], s3, st3.good, r3, q2, fun σ3 R3 => ⟨(wipe_ret R3 hown).trans wipe_wipe, ?_⟩⟩
          have stT := st3.toS.trans R3.toS
          refine ⟨z3, s3, R3.good, ?_⟩
          have keepD : ∀ {σ4 z4 H4 s4}, StpS B (wipe σ own) z2 H2 s2 σ4 z4 H4 s4 → H4 D = some (.lst vs) ∧ z4.F D = none ∧ ¬ Own σ4 s4.env z4 D ∧ Reps B z4 vs acc := fun {σ4 z4 H4 s4} st => by
            refine ⟨st.ext.keep D _ hD2 n2, ?_, fun y => ?_, r2.mono st.ext.le⟩
            · cases e : z4.F D with
              | none => rfl
              | some o =>
                rcases st.ext.new D o e with y | y | y
                · rw [f2] at y; cases y
                · exact absurd y n2
                · rw [hD2] at y; cases y
            · rcases st.sub D y with y | y
              · exact n2 y
              · rw [hD2] at y; cases y
          cases e3 : tt s3 with
          | bad => rw [e3] at c2; cases c2
          | ex er am => rw [e3] at c2; cases c2
          | ok b s4 =>
            rw [e3] at c2
            intro z4 H4 st4
            have stB := stT.trans st4.toS
            cases b with
            | false =>
              rw [if_neg Bool.false_ne_true]
              simp only at c2
              obtain ⟨k1, k2, k3, k4⟩ := keepD stB
              have ew : wipe σ3 own = wipe σ own := (wipe_ret R3 hown).trans wipe_wipe
              refine ⟨_, by omega, rfl, hlt, z4, s4.wp own, vs, acc, st4.good.rewipe ew, ex2.trans sub2 stB.ext, fun p y => ?_, k1, k4, k2, fun y => k3 (own_wipe (by rw [ew]; exact y)), c2⟩
              exact (sub2.trans ex2.there stB.sub) p (own_wipe (by rw [ew]; exact y))
            | true =>
              rw [if_pos rfl]
              simp only at c2
              refine ⟨z4, s4, st4.good, ?_⟩
              cases e5 : te s4 with
              | bad => rw [e5] at c2; cases c2
              | ex er am => rw [e5] at c2; cases c2
              | ok val s5 =>
                rw [e5] at c2
                simp only at c2
                intro z5 H5 v5 st5 vk5
                cases e6 : frz s5 val with
                | none => rw [e6] at c2; cases c2
                | some x6 =>
                  obtain ⟨dv, s6⟩ := x6
                  rw [e6] at c2
                  simp only at c2
                  obtain ⟨z6, st6, r6, _⟩ := frz_ok st5 vk5 e6
                  have stC := stB.trans st6.toS
                  obtain ⟨k1, k2, k3, k4⟩ := keepD stC
                  split at c2
                  · rename_i hlen
                    have ew : wipe σ3 own = wipe σ own := (wipe_ret R3 hown).trans wipe_wipe
                    refine ⟨vs, k1, by rw [k4.length]; exact hlen, _, by omega, rfl, hlt, z6, s6.wp own, vs ++ [v5], acc ++ [dv], (st6.good.rewipe ew).other k2 fun y => k3 (own_wipe (by rw [ew]; exact y)), (ex2.trans sub2 stC.ext).other hD, fun p y => ?_, upd_same, k4.append (.cons r6 .nil), k2, fun y => k3 (own_wipe (by rw [ew]; exact y)), c2⟩
                    exact (sub2.trans ex2.there stC.sub) p (own_wipe (by rw [ew]; exact y))
                  · cases c2
      · have e : i = ds.length := by omega
        subst e
        rw [List.drop_length] at c2
        simp only [compL, Option.some.injEq, Prod.mk.injEq] at c2
        obtain ⟨rfl, rfl⟩ := c2
        refine .inl ⟨w1 (Nat.le_refl _), ?_⟩
        have hl : s2.env.length = σ.length := by rw [g2.len, wipe_length]
        have gF := st1.good.restore g2 ex2.le
        refine h1 z2 H2 _ ⟨st1.ext.trans st1.sub ex2, gF, fun p y => (st1.sub.trans st1.ext.there sub2) p (own_res hl y)⟩ ⟨⟨D, _, rfl, hD2, .lst r2, f2, fun y => n2 (own_res hl y)⟩, fun _ p _ e => by cases e; exact hD0⟩
theorem e_comp {elt tg iter : Expr} {ifs : List Expr} {scope : Scope} {own : List (Str × Nat)} {mi : M (List Dt)} {t : Tg} {tt : M Bool} {te : M Val} (hc : X.calm = true) (hN : X.N.Nodup) (hi : PI X tg iter (rdI (bs X) W mi)) (ok : BlkOk X.N X.env.scope scope own) (hown : ∀ j ∈ idxT t, j ∈ own.map (·.2))
    (hg : ∀ (s : Shared) (H : Hp) (C : Addr) (cl : List (Str × Addr)) (fp : List Addr), PG (X.blk s H scope (compEnvC scope cl C X.env) fp) tg (rdT (bs X) t)) (ht : ∀ (s : Shared) (H : Hp) (C : Addr) (cl : List (Str × Addr)) (fp : List Addr), PTs (X.blk s H scope (compEnvC scope cl C X.env) fp) ifs (rdB (bs X) WF tt))
    (he : ∀ (s : Shared) (H : Hp) (C : Addr) (cl : List (Str × Addr)) (fp : List Addr), PE (X.blk s H scope (compEnvC scope cl C X.env) fp) elt (rdE (bs X) WF te)) (hs : ∀ x, foldedSetIterable iter X.env x = pure x) :
    PE X (.ListComp elt [⟨tg, iter, ifs, 0⟩] scope pos) (rdE (bs X) W (eComp (own.map (·.2)) mi t tt te)) :=
  pe_weak (pe_lc hc hN hi ok hg ht he hs) (rd_comp hown)
theorem s_setLc {i : Nat} {y : Str} {py : Pos} {elt tg iter : Expr} {ifs : List Expr} {scope : Scope} {own : List (Str × Nat)} {spos : Pos} {mi : M (List Dt)} {t : Tg} {tt : M Bool} {te : M Val} (hc : X.calm = true) (hN : X.N.Nodup) (hy : X.N[i]? = some y) (hyl : X.env.scope.names.lookup y = some .local)
    (hsw : swapsWith (.ListComp elt [⟨tg, iter, ifs, 0⟩] scope pos) (some (.Name y py)) spos.line X.env = pure true) (hi : PI X tg iter (rdI (bs X) W mi)) (ok : BlkOk X.N X.env.scope scope own) (hown : ∀ j ∈ idxT t, j ∈ own.map (·.2))
    (hg : ∀ (s : Shared) (H : Hp) (C : Addr) (cl : List (Str × Addr)) (fp : List Addr), PG (X.blk s H scope (compEnvC scope cl C X.env) fp) tg (rdT (bs X) t)) (ht : ∀ (s : Shared) (H : Hp) (C : Addr) (cl : List (Str × Addr)) (fp : List Addr), PTs (X.blk s H scope (compEnvC scope cl C X.env) fp) ifs (rdB (bs X) WF tt))
    (he : ∀ (s : Shared) (H : Hp) (C : Addr) (cl : List (Str × Addr)) (fp : List Addr), PE (X.blk s H scope (compEnvC scope cl C X.env) fp) elt (rdE (bs X) WF te)) (hs : ∀ x, foldedSetIterable iter X.env x = pure x) :
    PS X (.Assign [.Name y py] (.ListComp elt [⟨tg, iter, ifs, 0⟩] scope pos) spos) (rdS (bs X) W (sSet i (eComp (own.map (·.2)) mi t tt te))) :=
  ps_weak (ps_setLc hc hN hy hyl hsw hi ok hg ht he hs) fun D σ H ⟨z, s, g, h⟩ => rd_comp hown σ H _ ⟨z, s, g, (RO.bindS h).mono fun v H1 ⟨z1, s1, val, st1, v1, h1⟩ => store_rd st1.toS v1 h1⟩
end
end Rf

namespace Rf
open PySem PySem.Spec PyProof.Rows L2

def MutFit (B : Bs) (r : V → List V → Hp → VK → Prop) (f : List Dt → List Dt → Option (List Dt × Dt)) : Prop :=
  ∀ (z : Fz) (H : Hp) (p : Addr) (vs ws : List V) (xs ds xs' : List Dt) (d : Dt) (Q : VK), Sub z H → H p = some (.lst vs) → Reps B z vs xs → Reps B z ws ds → f xs ds = some (xs', d) →
    (∀ vs' v, Reps B z vs' xs' → Rep B z v d → Q v (upd H p (.lst vs'))) → r (.ref p) ws H Q
def ownL (s : S) : Val → Option (Nat × List Dt)
  | .sl i => match s.env[i]? with
    | some (.ow (.list xs)) => some (i, xs)
    | _ => none
  | _ => none
def eMut (f : List Dt → List Dt → Option (List Dt × Dt)) (mo : M Val) (ms : M (List Val)) : M Val := fun s => (mo s).bind fun vo s1 => match ownL s1 vo with
  | none => .bad
  | some (i, _) => (ms s1).bind fun vals s2 => match frzs s2 vals with
    | none => .bad
    | some (ds, s3) => match ownL s3 (.sl i) with
      | none => .bad
      | some (_, xs) => match f xs ds with
        | none => .bad
        | some (xs', d) => .ok (.st d) { s3 with env := s3.env.set i (.ow (.list xs')) }
section
variable {B : Bs} {W : WX} {σ : L2.St} {z z1 z2 : Fz} {H H0 H1 H2 : Hp} {s s1 s2 : S}
theorem ownL_at {val : Val} {i : Nat} {xs : List Dt} (h : ownL s val = some (i, xs)) : val = .sl i ∧ s.env[i]? = some (.ow (.list xs)) := by
  cases val with
  | sl j =>
    simp only [ownL] at h
    split at h
    · rename_i e; cases h; exact ⟨rfl, e⟩
    · cases h
  | _ => cases h
theorem Good.ownL (g : Good B z H σ s) {i : Nat} {xs : List Dt} {v : V} (e : s.env[i]? = some (.ow (.list xs))) (hσ : σ[i]? = some (some v)) : ∃ p vs, v = .ref p ∧ H p = some (.lst vs) ∧ Reps B z vs xs ∧ z.F p = none ∧ SlotAt σ s.env i p := by
  obtain ⟨p, ho, ev, hp, r, f⟩ := g.slots i _ _ e hσ
  cases ev
  cases r with
  | lst r => exact ⟨p, _, rfl, hp, r, f, _, e, hσ⟩
theorem Good.change (g : Good B z H σ s) {i : Nat} {p : Addr} {ho : HO} {d : Dt} (h : SlotAt σ s.env i p) (r : OwnO B z d ho) : Good B z (upd H p ho) σ { s with env := s.env.set i (.ow d) } := by
  obtain ⟨d0, e0, eσ⟩ := id h
  obtain ⟨_, _, _, _, hp, _, f⟩ := g.slotAt h
  have hi : i < s.env.length := (List.getElem?_eq_some_iff.mp e0).1
  have old : ∀ {j q}, SlotAt σ (s.env.set i (.ow d)) j q → SlotAt σ s.env j q := fun {j q} ⟨d', e1, e2⟩ => by
    by_cases e : j = i
    · subst e
      rw [eσ] at e2
      exact ⟨d0, e0, by rw [eσ]; exact e2⟩
    · rw [List.getElem?_set_ne (Ne.symm e)] at e1
      exact ⟨d', e1, e2⟩
  have fp : ∀ {a u}, z.F a = some u → a ≠ p := fun h e => by rw [e, f] at h; cases h
  refine ⟨by simpa using g.len, fun a u h => by rw [upd_ne (fp h)]; exact g.sub a u h, fun j x q e1 e2 => ?_, fun j k q h1 h2 => g.apart j k q (old h1) (old h2), ?_, fun j q h => g.ambS j q (old h)⟩
  · have e1' : (s.env.set i (.ow d))[j]? = some x := e1
    by_cases e : j = i
    · subst e
      rw [List.getElem?_set_self hi] at e1'; cases e1'
      rw [eσ] at e2; cases e2
      exact ⟨p, ho, rfl, upd_same, r, f⟩
    · rw [List.getElem?_set_ne (Ne.symm e)] at e1'
      refine (g.slots j x q e1' e2).mono (.refl _) fun a u e3 ⟨d', e4⟩ h' f' => ⟨?_, f'⟩
      have ne : a ≠ p := fun y => e (g.apart j i p ⟨d', by rw [← e4]; exact e1', by rw [← y, ← e3]; exact e2⟩ h)
      rw [upd_ne ne]; exact h'
  · have := g.amb
    show AmbOk _ _ s.am
    cases e : s.am with
    | none => rw [e] at this; exact this
    | some r =>
      rw [e] at this
      obtain ⟨a, c, e', ne, h1, h2, h3, h4⟩ := this
      have n := g.ambS i p h
      have na : a ≠ p := fun y => n ⟨a, c, e', .inl y.symm⟩
      have nc : c ≠ p := fun y => n ⟨a, c, e', .inr y.symm⟩
      exact ⟨a, c, e', ne, by rw [upd_ne na]; exact h1, by rw [upd_ne nc]; exact h2, h3, h4⟩
theorem Stp.change (g : Good B z H σ s) {i : Nat} {p : Addr} {ho : HO} {d : Dt} (h : SlotAt σ s.env i p) (r : OwnO B z d ho) : Stp B σ z H s z (upd H p ho) { s with env := s.env.set i (.ow d) } := by
  obtain ⟨d0, e0, eσ⟩ := id h
  refine ⟨.write (.inr ⟨i, h⟩), g.change h r, fun q y => .inl ?_⟩
  rcases y with y | ⟨j, d', e1, e2⟩
  · exact .inl y
  · by_cases e : j = i
    · subst e
      exact .inr ⟨j, d0, e0, e2⟩
    · rw [List.getElem?_set_ne (Ne.symm e)] at e1
      exact .inr ⟨j, d', e1, e2⟩
theorem RO.bind' {r : R Val} {f : Val → S → R Val} {Q : VK} (h : RO B W σ z H s (r.bind f) Q) :
    RO B W σ z H s r (fun v H1 => ∃ z1 s1 val, Stp B σ z H s z1 H1 s1 ∧ VOk B σ H z1 H1 s1 v val ∧ RO B W σ z H s (f val s1) Q) := by
  cases r with
  | ok val s' => exact fun z' H' v x y => ⟨z', s', val, x, y, h⟩
  | ex e am => exact h
  | bad => exact h
theorem rd_mut {K : PySem.W.Frag} (hK : B.K = K) {r : V → List V → Hp → VK → Prop} {f : List Dt → List Dt → Option (List Dt × Dt)} {mo : M Val} {ms : M (List Val)} (hf : MutFit B r f) : ∀ σ H Q, rdE B W (eMut f mo ms) σ H Q → tBM K "list" r (rdE B W mo) (rdA B W ms) σ H Q := by
  subst hK
  rintro σ H Q ⟨z, s, g, h⟩
  refine ⟨z, s, g, (RO.bind h).mono fun v H1 ⟨z1, s1, vo, st1, v1, h1⟩ => ?_⟩
  cases q : ownL s1 vo with
  | none => rw [q] at h1; exact h1.elim
  | some x =>
    obtain ⟨i, xs0⟩ := x
    rw [q] at h1
    obtain ⟨rfl, e0⟩ := ownL_at q
    have hσ : σ[i]? = some (some v) := v1.1
    obtain ⟨p, vs0, rfl, hp0, _, _, _⟩ := st1.good.ownL e0 hσ
    refine ⟨.inl ⟨rfl, _, .of hp0⟩, z1, s1, st1.good, (ROL.bind' h1).mono fun ws H2 ⟨z2, s2, vals, st2, v2, h2⟩ => ?_⟩
    cases q2 : frzs s2 vals with
    | none => rw [q2] at h2; exact h2.elim
    | some x =>
      obtain ⟨ds, s3⟩ := x
      rw [q2] at h2
      simp only at h2
      obtain ⟨z3, st3, r3, _⟩ := frzs_ok st2 v2 q2
      cases q3 : ownL s3 (.sl i) with
      | none => rw [q3] at h2; exact h2.elim
      | some x =>
        obtain ⟨j, xs⟩ := x
        rw [q3] at h2
        simp only at h2
        obtain ⟨ej, e3⟩ := ownL_at q3
        cases ej
        obtain ⟨p', vs, ep, hp, rv, _, at_⟩ := st3.good.ownL e3 hσ
        cases ep
        cases q4 : f xs ds with
        | none => rw [q4] at h2; exact h2.elim
        | some x =>
          obtain ⟨xs', d⟩ := x
          rw [q4] at h2
          refine hf z3 H2 p vs ws xs ds xs' d Q st3.good.sub hp rv r3 q4 fun vs' v' rv' rd => ?_
          exact h2 z3 _ v' (st3.trans (.change st3.good at_ (.lst rv'))) ⟨rd, fun _ _ e => by cases e⟩
end
def fApp (xs : List Dt) : List Dt → Option (List Dt × Dt)
  | [d] => if xs.length < sizeLine then some (xs ++ [d], .none) else none
  | _ => none
theorem fit_app {B : Bs} : MutFit B rAppend fApp := by
  intro z H p vs ws xs ds xs' d Q sub hp rv rw' hf k
  unfold fApp at hf
  split at hf
  · rename_i d0
    split at hf
    · rename_i hl
      cases hf
      cases rw' with
      | cons r1 r2 =>
        cases r2
        exact ⟨p, vs, _, rfl, rfl, hp, by rw [rv.length]; exact hl, k _ _ (rv.append (.cons r1 .nil)) .non⟩
    · cases hf
  · cases hf
def fExt (xs : List Dt) : List Dt → Option (List Dt × Dt)
  | [.list ys] => if xs.length + ys.length ≤ sizeLine then some (xs ++ ys, .none) else none
  | _ => none
theorem fit_ext {B : Bs} : MutFit B rExtend fExt := by
  intro z H p vs ws xs ds xs' d Q sub hp rv rw' hf k
  unfold fExt at hf
  split at hf
  · rename_i ys
    split at hf
    · rename_i hl
      cases hf
      cases rw' with
      | cons r1 r2 =>
        cases r2
        obtain ⟨b, zs, rfl, hb, rb⟩ := r1.lst_inv
        exact ⟨p, b, vs, zs, rfl, rfl, hp, sub _ _ hb, by rw [rv.length, rb.length]; exact hl, k _ _ (rv.append rb) .non⟩
    · cases hf
  · cases hf
def fPop (xs : List Dt) : List Dt → Option (List Dt × Dt)
  | [] => match xs[xs.length - 1]? with
    | some d => some (xs.dropLast, d)
    | none => none
  | [.int i] => if -(2 ^ 63) ≤ i ∧ i < 2 ^ 63 then (match seqIndex? i xs.length with
    | some k => match xs[k]? with
      | some d => some (xs.eraseIdx k, d)
      | none => none
    | none => none) else none
  | _ => none
theorem Reps.dropLast {B : Bs} {z : Fz} {vs : List V} {ds : List Dt} (r : Reps B z vs ds) : Reps B z vs.dropLast ds.dropLast := by
  rw [List.dropLast_eq_take, List.dropLast_eq_take, r.length]
  exact r.take _
theorem Reps.eraseIdx {B : Bs} {z : Fz} : ∀ {vs : List V} {ds : List Dt} (k : Nat), Reps B z vs ds → Reps B z (vs.eraseIdx k) (ds.eraseIdx k)
  | _, _, _, .nil => by simpa using Reps.nil
  | _, _, 0, .cons _ rs => rs
  | _, _, k + 1, .cons r rs => .cons r (Reps.eraseIdx k rs)
theorem fit_pop {B : Bs} : MutFit B (fun x vs H Q => rPop x vs H Q ∨ rPopAt x vs H Q) fPop := by
  intro z H p vs ws xs ds xs' d Q sub hp rv rw' hf k
  unfold fPop at hf
  split at hf
  · cases rw'
    cases q : xs[xs.length - 1]? with
    | none => rw [q] at hf; cases hf
    | some d0 =>
      rw [q] at hf
      cases hf
      obtain ⟨v, hv, r⟩ := rv.getD q
      exact .inl ⟨p, vs, v, rfl, rfl, hp, by rw [rv.length]; exact hv, k _ _ rv.dropLast r⟩
  · rename_i i
    split at hf
    · rename_i hb
      cases q : seqIndex? i xs.length with
      | none => rw [q] at hf; cases hf
      | some j =>
        rw [q] at hf
        simp only at hf
        cases q2 : xs[j]? with
        | none => rw [q2] at hf; cases hf
        | some d0 =>
          rw [q2] at hf
          cases hf
          obtain ⟨v, hv, r⟩ := rv.getD q2
          cases rw' with
          | cons r1 r2 =>
            cases r2
            rw [r1.int_inv]
            exact .inr ⟨p, vs, i, j, v, rfl, rfl, hp, hb.1, hb.2, by rw [rv.length]; exact q, hv, k _ _ (rv.eraseIdx j) r⟩
    · cases hf
  · cases hf
section
variable {X : Cx} {W : WX} {o e : Expr} {es : List Expr} {apos cpos pos : Pos} {mo : M Val} {ms : M (List Val)}
theorem MtR.or' {id : String} {r r' : V → List V → Hp → VK → Prop} (h : MtR X id r) (h' : MtR X id r') : MtR X id (fun x xs H Q => r x xs H Q ∨ r' x xs H Q) := MtR.or h h'
theorem e_mut {id : String} {name : Str} {r : V → List V → Hp → VK → Prop} {f : List Dt → List Dt → Option (List Dt × Dt)} (pa : PlainAttrs "list") (slot : PySem.Slot "list" name id) (hty : typeOf (.builtin id) = pure (.type "method_descriptor")) (hm : MtR X id r) (hf : MutFit (bs X) r f)
    (ho : PE X o (rdE (bs X) W mo)) (ha : PA X (e :: es) (rdA (bs X) W ms))
    (hbase : attributeBase o name X.env (eval o X.env) = eval o X.env)
    (hfew : ((backTo cpos (starEach (e :: es) X.env)).all (fun x => !x.1) && (backToKw cpos (keywordEach [] X.env)).all (fun x => x.1.isSome)
      && decide ((e :: es).length + ([] : List Keyword).length + (if ([] : List Keyword).isEmpty then 0 else 1) < 30)) = true)
    (hline : (apos.endLine == cpos.line) = true) (hs : starEach (e :: es) X.env = (false, eval e X.env) :: starEach es X.env) (hplain : (backTo cpos (starEach es X.env)).any (·.1) = false) :
    PE X (.Call (.Attribute o name apos) (e :: es) [] cpos) (rdE (bs X) W (eMut f mo ms)) := pe_weak (pe_bm pa slot hty hm ho ha hbase hfew hline hs hplain) (rd_mut rfl hf)
theorem e_mut0 {id : String} {name : Str} {r : V → List V → Hp → VK → Prop} {f : List Dt → List Dt → Option (List Dt × Dt)} (pa : PlainAttrs "list") (slot : PySem.Slot "list" name id) (hty : typeOf (.builtin id) = pure (.type "method_descriptor")) (hm : MtR X id r) (hf : MutFit (bs X) r f)
    (ho : PE X o (rdE (bs X) W mo)) (hbase : attributeBase o name X.env (eval o X.env) = eval o X.env) (hline : (apos.endLine == cpos.line) = true) :
    PE X (.Call (.Attribute o name apos) [] [] cpos) (rdE (bs X) W (eMut f mo aNil)) := by
  refine pe_weak (pe_bm0 pa slot hty hm ho hbase hline) fun σ H Q h => ?_
  obtain ⟨z, s, g, h1⟩ := rd_mut (K := X.K) rfl hf σ H Q h
  refine ⟨z, s, g, h1.mono fun v H1 ⟨ty, z2, s2, g2, h2⟩ => ⟨ty, ?_⟩⟩
  exact h2 z2 H1 [] (.refl g2) .nil

def sSetL (mv mo mi : M Val) : M Flo := fun s => (mv s).bind fun vv s1 => (mo s1).bind fun vo s2 => (mi s2).bind fun vi s3 => match frz s3 vv with
  | none => .bad
  | some (d, s4) => match vo, peek s4 vi with
    | .sl i, some (.int k) => match ownL s4 (.sl i) with
      | none => .bad
      | some (_, xs) => match ixN xs.length k with
        | none => .bad
        | some j => .ok .nx { s4 with env := s4.env.set i (.ow (.list (xs.set j d))) }
    | _, _ => .bad
end
end Rf

namespace Rf
open PySem PySem.Spec PyProof.Rows L2

def kOf : Dt → Option Key
  | .int i => some (.inl i)
  | .str x => some (.inr x)
  | _ => none
theorem kOf_kD (k : Key) : kOf (kD k) = some k := by cases k <;> rfl
theorem kOf_eq {d : Dt} {k : Key} (h : kOf d = some k) : d = kD k := by
  cases d <;> simp only [kOf] at h <;> cases h <;> rfl
theorem Now.key {B : Bs} {z : Fz} {H : Hp} {v : V} {d : Dt} {k : Key} (h : Now B z H v d) (e : kOf d = some k) : v = kV k := by
  cases d <;> simp only [kOf] at e <;> cases e
  · exact h.int
  · exact h.str
theorem Rep.kV {B : Bs} {z : Fz} (k : Key) : Rep B z (L2.kV k) (kD k) := by
  cases k
  · exact .int _
  · exact .str _
def dGet (kvs : List (Dt × Dt)) (k : Key) : Option Dt := (kvs.find? fun kv => decide (kOf kv.1 = some k)).map (·.2)
def dHas (kvs : List (Dt × Dt)) (k : Key) : Bool := kvs.any fun kv => decide (kOf kv.1 = some k)
def dPut (kvs : List (Dt × Dt)) (k : Key) (d : Dt) : List (Dt × Dt) :=
  if dHas kvs k then kvs.map fun kv => if kOf kv.1 = some k then (kv.1, d) else kv else kvs ++ [(kD k, d)]
section
variable {B : Bs} {z : Fz}
theorem KReps.get {k : Key} : ∀ {kvs : List (Key × V)} {ds : List (Dt × Dt)}, KReps B z kvs ds → (valV kvs k = none ∧ dGet ds k = none) ∨ ∃ v d, valV kvs k = some v ∧ dGet ds k = some d ∧ Rep B z v d
  | _, _, .nil => .inl ⟨rfl, rfl⟩
  | _, _, .cons (k := j) (v := v) (d := d) (ds := ds0) r rs => by
    by_cases e : j = k
    · subst e
      exact .inr ⟨v, d, valV_pos rfl, by simp [dGet, List.find?_cons, kOf_kD], r⟩
    · have h1 := KReps.get (k := k) rs
      rw [valV_neg (p := (j, v)) e]
      have h2 : dGet ((kD j, d) :: ds0) k = dGet ds0 k := by
        show ((List.find? (fun kv => decide (kOf kv.1 = some k)) ((kD j, d) :: ds0)).map (·.2)) = _
        rw [List.find?_cons]
        have : decide (kOf (kD j) = some k) = false := decide_eq_false (by rw [kOf_kD]; simpa using e)
        simp only [this]
        rfl
      rw [h2]
      exact h1
theorem KReps.any {k : Key} : ∀ {kvs : List (Key × V)} {ds : List (Dt × Dt)}, KReps B z kvs ds → (kvs.any fun kv => decide (kv.1 = k)) = dHas ds k
  | _, _, .nil => rfl
  | _, _, .cons (k := j) r rs => by
    unfold dHas
    rw [List.any_cons, List.any_cons, KReps.any rs]
    have : decide (kOf (kD j) = some k) = decide (j = k) := by rw [kOf_kD]; simp
    simp only [this]
    rfl
theorem KReps.map {k : Key} {v : V} {d : Dt} (r : Rep B z v d) : ∀ {kvs : List (Key × V)} {ds : List (Dt × Dt)}, KReps B z kvs ds → KReps B z (kvs.map fun kv => if kv.1 = k then (kv.1, v) else kv) (ds.map fun kv => if kOf kv.1 = some k then (kv.1, d) else kv)
  | _, _, .nil => .nil
  | _, _, .cons (k := j) r' rs => by
    rw [List.map_cons, List.map_cons]
    by_cases e : j = k
    · rw [if_pos e, if_pos (by rw [kOf_kD, e])]
      exact .cons r (KReps.map r rs)
    · rw [if_neg e, if_neg (by rw [kOf_kD]; simpa using e)]
      exact .cons r' (KReps.map r rs)
theorem KReps.put {k : Key} {v : V} {d : Dt} (r : Rep B z v d) {kvs : List (Key × V)} {ds : List (Dt × Dt)} (rs : KReps B z kvs ds) : KReps B z (putK kvs k v) (dPut ds k d) := by
  unfold putK dPut
  rw [KReps.any rs]
  split
  · exact KReps.map r rs
  · exact rs.append (.cons r .nil)
theorem KReps.keys : ∀ {kvs : List (Key × V)} {ds : List (Dt × Dt)}, KReps B z kvs ds → Reps B z (kvs.map fun kv => L2.kV kv.1) (ds.map (·.1))
  | _, _, .nil => .nil
  | _, _, .cons _ rs => .cons (Rep.kV _) (KReps.keys rs)
theorem Now.dic {H : Hp} {v : V} {ds : List (Dt × Dt)} (sub : Sub z H) (h : Now B z H v (.dict ds)) : (∃ a kvs, v = .ref a ∧ H a = some (.dK kvs) ∧ KReps B z kvs ds) ∨ (∃ x, ds = [(.none, .str x)]) ∨ ds = [(.none, .none)] ∨ ∃ l, ds = [(.none, .list l)] := by
  rcases h with h | ⟨p, ho, rfl, hp, r⟩
  · cases h with
    | dic s r => exact .inl ⟨_, _, rfl, sub _ _ s, r⟩
    | fn e => exact .inr (.inl ⟨_, rfl⟩)
    | src e => exact .inr (.inr (.inl rfl))
    | scr s r => exact .inr (.inr (.inr ⟨_, rfl⟩))
  · cases r with
    | dK r => exact .inl ⟨p, _, rfl, hp, r⟩
def goodK (ds : List (Dt × Dt)) : Bool := ds.all fun kv => (kOf kv.1).isSome
theorem Now.dicK {H : Hp} {v : V} {ds : List (Dt × Dt)} (sub : Sub z H) (h : Now B z H v (.dict ds)) (g : goodK ds = true) : ∃ a kvs, v = .ref a ∧ H a = some (.dK kvs) ∧ KReps B z kvs ds := by
  rcases h.dic sub with h | ⟨x, rfl⟩ | rfl | ⟨l, rfl⟩
  · exact h
  · simp [goodK, kOf] at g
  · simp [goodK, kOf] at g
  · simp [goodK, kOf] at g
theorem kvs_good : ∀ {kvs : List (Key × V)} {ds : List (Dt × Dt)}, KReps B z kvs ds → goodK ds = true
  | _, _, .nil => rfl
  | _, _, .cons _ rs => by
    show goodK (_ :: _) = true
    unfold goodK
    rw [List.all_cons, kOf_kD]
    exact kvs_good rs
end
section
variable {X : Cx} {W : WX} {pos : Pos}
def dIxD : Dt → Dt → Option Val
  | .dict ds, k => match kOf k with
    | some key => if goodK ds then (dGet ds key).map .st else none
    | none => none
  | a, i => dIx a i
theorem ix_dict (hu : X.A.units + 1 < cLine) : IxR X (fun x y H Q => ∃ a v, x = .ref a ∧ DGet H a y (some v) ∧ Q v H) := by
  intro value slice pins s σ H x y v u Q I rx ry h hs
  obtain ⟨a, w, rfl, g, q⟩ := h
  obtain rfl : v = Value.ref a := rx
  have ht : s.TypeIs (.ref a) "dict" := dict_typeIs I g
  exact tail_any ht PySem.F.slot_dict_getitem.lookup (d_getItem hu I g ry fun w' s' I' r' => ⟨w, H, I', r', q⟩) hs
theorem fit_ixD {B : Bs} : OpFit B (fun x y H Q => (∃ a v, x = .ref a ∧ DGet H a y (some v) ∧ Q v H) ∨ rIxL B.K x y H Q ∨ rIxT B.K x y H Q ∨ rIxS x y H Q) dIxD := by
  intro z H v w a b val Q sub ha hb hf hv
  by_cases hd : ∃ ds, a = .dict ds
  · obtain ⟨ds, rfl⟩ := hd
    simp only [dIxD] at hf
    cases e : kOf b with
    | none => rw [e] at hf; cases hf
    | some k =>
      rw [e] at hf
      simp only at hf
      split at hf
      · rename_i hg
        obtain ⟨a, kvs, rfl, hH, r⟩ := ha.dicK sub hg
        rcases r.get (k := k) with ⟨_, h2⟩ | ⟨u, d, h1, h2, ru⟩
        · rw [h2] at hf; cases hf
        · rw [h2] at hf; cases hf
          refine .inl ⟨a, u, rfl, ?_, hv.1 _ ru⟩
          rw [hb.key e, ← h1]
          exact .k hH
      · cases hf
  · refine .inr (fit_ix z H v w a b val Q sub ha hb ?_ hv)
    cases a <;> first | exact hf | exact absurd ⟨_, rfl⟩ hd
theorem e_ixD {a b : Expr} {ma mb : M Val} (hu : X.A.units + 1 < cLine) (ha : PE X a (rdE (bs X) W ma)) (hb : PE X b (rdE (bs X) W mb)) (hs : PlainIx b) : PE X (.Subscript a b pos) (rdE (bs X) W (eBin dIxD ma mb)) :=
  pe_weak (pe_ix ((ix_dict hu).or (ix_list.or (ix_tup.or ix_str))) ha hb hs) (rd_bin fit_ixD)

def ownS (s : S) : Val → Option (Nat × Dt)
  | .sl i => match s.env[i]? with
    | some (.ow d) => some (i, d)
    | _ => none
  | _ => none
theorem ownS_at {s : S} {val : Val} {i : Nat} {d : Dt} (h : ownS s val = some (i, d)) : val = .sl i ∧ s.env[i]? = some (.ow d) := by
  cases val with
  | sl j =>
    simp only [ownS] at h
    split at h
    · rename_i e; cases h; exact ⟨rfl, e⟩
    · cases h
  | _ => cases h
def putIx : Dt → Dt → Dt → Option Dt
  | .list xs, .int k, d => (ixN xs.length k).map fun j => .list (xs.set j d)
  | .dict ds, k, d => match kOf k with
    | some key => if ds.length < sizeLine then some (.dict (dPut ds key d)) else none
    | none => none
  | _, _, _ => none
def rPutD : V → V → V → Hp → (Hp → Prop) → Prop := fun o i v H Q => ∃ a H', o = .ref a ∧ DPut H a i v H' ∧ Q H'
theorem set_dict (hu : X.A.units + 1 < cLine) : PSet X rPutD := by
  intro pins s σ H o i v ov iv u Q I ro ri rv h
  obtain ⟨a, H', rfl, g, q⟩ := h
  obtain rfl : ov = Value.ref a := ro
  exact d_setItem hu I g ri rv fun s' I' => ⟨H', I', q⟩
theorem PSet.or {t t' : TSet} (h : PSet X t) (h' : PSet X t') : PSet X (fun o i v H Q => t o i v H Q ∨ t' o i v H Q) := by
  intro pins s σ H o i v ov iv u Q I ro ri rv q
  rcases q with q | q
  · exact h pins s σ H o i v ov iv u Q I ro ri rv q
  · exact h' pins s σ H o i v ov iv u Q I ro ri rv q
theorem fit_put {B : Bs} {z : Fz} {H : Hp} {p : Addr} {ho : HO} {d di dv d' : Dt} {iv v : V} {Q : Hp → Prop} (sub : Sub z H) (hp : H p = some ho) (r : OwnO B z d ho) (hi : Now B z H iv di) (rv : Rep B z v dv) (hf : putIx d di dv = some d')
    (k : ∀ ho', OwnO B z d' ho' → Q (upd H p ho')) : rSetL (.ref p) iv v H Q ∨ rPutD (.ref p) iv v H Q := by
  cases r with
  | lst r =>
    rename_i vs xs
    cases di with
    | int n =>
      simp only [putIx] at hf
      cases e : ixN xs.length n with
      | none => rw [e] at hf; cases hf
      | some j =>
        rw [e] at hf; cases hf
        exact .inl ⟨p, vs, n, j, rfl, hi.int, hp, by rw [r.length]; exact e, k _ (.lst (r.set rv j))⟩
    | _ => cases hf
  | dK r =>
    rename_i kvs ds
    simp only [putIx] at hf
    cases e : kOf di with
    | none => rw [e] at hf; cases hf
    | some key =>
      rw [e] at hf
      simp only at hf
      split at hf
      · rename_i hl
        cases hf
        refine .inr ⟨p, _, rfl, ?_, k _ (.dK (r.put rv))⟩
        rw [hi.key e]
        exact .k hp (by rw [r.length]; exact hl)
      · cases hf
def sSetIx (mv mo mi : M Val) : M Flo := fun s => (mv s).bind fun vv s1 => (mo s1).bind fun vo s2 => (mi s2).bind fun vi s3 => match frz s3 vv with
  | none => .bad
  | some (d, s4) => match peek s4 vi, ownS s4 vo with
    | some di, some (i, o) => match putIx o di d with
      | some o' => .ok .nx { s4 with env := s4.env.set i (.ow o') }
      | none => .bad
    | _, _ => .bad
theorem VOk.slStep {B : Bs} {σ : L2.St} {H0 : Hp} {z z' : Fz} {H H' : Hp} {s s' : S} {v : V} {i : Nat} (h : VOk B σ H0 z H s v (.sl i)) : VOk B σ H0 z' H' s' v (.sl i) := ⟨h.1, fun _ _ e => by cases e⟩
theorem RO.bindS' {B : Bs} {σ : L2.St} {z z0 : Fz} {H H0 : Hp} {s s0 : S} {r : R Val} {f : Val → S → R Flo} {D : Ends} (a : Stp B σ z0 H0 s0 z H s) (h : SO B W σ z0 H0 s0 (r.bind f) D) :
    RO B W σ z H s r (fun v H1 => ∃ z1 s1 val, Stp B σ z H s z1 H1 s1 ∧ VOk B σ H z1 H1 s1 v val ∧ SO B W σ z0 H0 s0 (f val s1) D) := by
  cases r with
  | ok val s' => exact fun z' H' v x y => ⟨z', s', val, x, y, h⟩
  | ex e am => exact ROx.step a (SOx.toE h)
  | bad => exact h
theorem s_setIx {o i e : Expr} {pos' : Pos} {mv mo mi : M Val} (hu : X.A.units + 1 < cLine) (hv : PE X e (rdE (bs X) W mv)) (ho : PE X o (rdE (bs X) W mo)) (hi : PE X i (rdE (bs X) W mi))
    (ha : ∀ v, assign (.Subscript o i pos') X.env v = (do
      let ov ← holding [v] (eval o X.env)
      let iv ← holding [v, ov] (eval i X.env)
      standAt pos'
      holding [v, ov, iv] (setItem ov iv v)
      release [v, ov, iv] []))
    (hs : swapsWithSole [.Subscript o i pos'] e pos.line X.env = pure false) (hw : swappedStores [.Subscript o i pos'] e X.env = pure none) (h1 : (assignEach [.Subscript o i pos'] X.env).map (·.2) = [assign (.Subscript o i pos') X.env]) :
    PS X (.Assign [.Subscript o i pos'] e pos) (rdS (bs X) W (sSetIx mv mo mi)) := by
  refine ps_weak (ps_asg hv (pg_sub ho hi (PSet.or set_list (set_dict hu)) ha) hs hw h1) fun D σ H ⟨z, s, g, h⟩ => ?_
  refine ⟨z, s, g, (RO.bindS h).mono fun v H1 ⟨z1, s1, vv, st1, v1, h1⟩ => ?_⟩
  refine ⟨z1, s1, st1.good, (RO.bindS' st1 h1).mono fun ov H2 ⟨z2, s2, vo, st2, v2, h2⟩ => ?_⟩
  refine ⟨z2, s2, st2.good, (RO.bindS' (st1.trans st2) h2).mono fun iv H3 ⟨z3, s3, vi, st3, v3, h3⟩ => ?_⟩
  have v1' := (v1.step st2).step st3
  have st := (st1.trans st2).trans st3
  cases q : frz s3 vv with
  | none => rw [q] at h3; exact h3.elim
  | some x =>
    obtain ⟨d, s4⟩ := x
    rw [q] at h3
    simp only at h3
    obtain ⟨z4, st4, r4, le4, ow4, _⟩ := frz_ok st v1' q
    cases q1 : peek s4 vi with
    | none => rw [q1] at h3; exact h3.elim
    | some di =>
      cases q2 : ownS s4 vo with
      | none => rw [q1, q2] at h3; exact h3.elim
      | some x =>
        obtain ⟨j, od⟩ := x
        rw [q1, q2] at h3
        simp only at h3
        obtain ⟨rfl, e4⟩ := ownS_at q2
        cases q3 : putIx od di d with
        | none => rw [q3] at h3; exact h3.elim
        | some od' =>
          rw [q3] at h3
          have hσ : σ[j]? = some (some ov) := v2.1
          obtain ⟨p, hob, ep, hp, ro, f⟩ := st4.good.slots j _ _ e4 hσ
          cases ep
          have at_ : SlotAt σ s4.env j p := ⟨_, e4, hσ⟩
          have ni : Now (bs X) z4 H3 iv di := by
            cases vi with
            | st d0 => cases q1; exact .inl ((show Rep _ _ _ _ from v3.1).mono le4)
            | ow d0 =>
              cases q1
              obtain ⟨p0, ho0, e0, hp0, r0, _⟩ := v3.1
              exact .inr ⟨p0, ho0, e0, hp0, r0.mono le4⟩
            | sl k => exact peek_now st4.good (v3.slStep : VOk (bs X) σ H2 z4 H3 s4 iv (.sl k)) q1
          exact fit_put st4.good.sub hp ro ni r4 q3 fun ho' ro' => h3 σ z4 _ (st4.trans (.change st4.good at_ ro')).toS

def sAug (i : Nat) (f : Dt → Dt → Option Val) (m : M Val) : M Flo := fun s => match s.env[i]? with
  | some (.fz a) => (m s).bind fun v s1 => match peek s1 v with
    | some b => match f a b with
      | some (.st d) => store i (.st d) s1
      | _ => .bad
    | none => .bad
  | _ => .bad
def AugFit (B : Bs) (r : TIp) (f : Dt → Dt → Option Val) : Prop :=
  ∀ (z : Fz) (H : Hp) (v w : V) (a b d : Dt) (Q : VK), Sub z H → Now B z H v a → Now B z H w b → f a b = some (.st d) → (∀ u, Rep B z u d → Q u H) → r v w H Q
theorem s_aug {i : Nat} {x : Str} {e : Expr} {op : Operator} {r : TIp} {f : Dt → Dt → Option Val} {pos' : Pos} {m : M Val} (hN : X.N.Nodup) (hi : X.N[i]? = some x) (hx : Loc X.env.scope x) (h : PE X e (rdE (bs X) W m)) (ho : PIp X op r) (hf : AugFit (bs X) r f) (hfn : X.fn x = true ∨ X.env.scope.names.lookup x = some .local) :
    PS X (.AugAssign (.Name x pos') op e pos) (rdS (bs X) W (sAug i f m)) := by
  refine ps_weak (ps_aug hN hi hx h ho hfn) fun D σ H ⟨z, s, g, h⟩ => ?_
  unfold sAug at h
  cases q : s.env[i]? with
  | none => rw [q] at h; exact h.elim
  | some sl =>
    rw [q] at h
    have hl : i < σ.length := by rw [← g.len]; exact (List.getElem?_eq_some_iff.mp q).1
    have hσ : σ[i]? = some σ[i] := by simp [hl]
    cases sl with
    | fz a =>
      obtain ⟨va, ea, ra⟩ := g.slots i _ _ q hσ
      refine ⟨va, by rw [hσ, ea], z, s, g, (RO.bindS h).mono fun w H1 ⟨z1, s1, vb, st1, v1, h1⟩ => ?_⟩
      cases q1 : peek s1 vb with
      | none => rw [q1] at h1; exact h1.elim
      | some b =>
        rw [q1] at h1
        simp only at h1
        cases q2 : f a b with
        | none => rw [q2] at h1; exact h1.elim
        | some val =>
          rw [q2] at h1
          cases val with
          | st d => exact hf z1 H1 va w a b d _ st1.good.sub (.inl (ra.mono st1.ext.le)) (peek_now st1.good v1 q1) q2 fun u ru => store_rd st1.toS (val := .st d) ⟨ru, fun _ _ e => by cases e⟩ h1
          | _ => exact h1.elim
    | no => exact h.elim
    | ow a => exact h.elim
theorem aug_of {B : Bs} {C : Int → Int → Prop} {g : Int → Int → Int} {f : Dt → Dt → Option Val} (h1 : ∀ a b val, f a b = some val → ∃ i j, a = .int i ∧ b = .int j ∧ C i j ∧ val = .st (.int (g i j))) : AugFit B (rI C fun i j => .int (g i j)) f := by
  intro z H v w a b d Q sub ha hb hf k
  obtain ⟨i, j, rfl, rfl, hc, e⟩ := h1 a b _ hf
  cases e
  exact ⟨i, j, ha.int, hb.int, hc, k _ (.int _)⟩
theorem aug_of0 {B : Bs} {g : Int → Int → Int} {f : Dt → Dt → Option Val} (h1 : ∀ a b val, f a b = some val → ∃ i j, a = .int i ∧ b = .int j ∧ val = .st (.int (g i j))) : AugFit B (rI0 fun i j => .int (g i j)) f := by
  intro z H v w a b d Q sub ha hb hf k
  obtain ⟨i, j, rfl, rfl, e⟩ := h1 a b _ hf
  cases e
  exact ⟨i, j, ha.int, hb.int, k _ (.int _)⟩
def dAddI : Dt → Dt → Option Val
  | .int a, .int b => some (.st (.int (a + b)))
  | .str a, .str b => if a.length + b.length ≤ sizeLine then some (.st (.str (a ++ b))) else none
  | _, _ => none
def rAugAdd : TIp := fun x y H Q => (rI0 fun i j => .int (i + j)) x y H Q ∨ (∃ i j, x = .str i ∧ y = .str j ∧ i.length + j.length ≤ sizeLine ∧ Q (.str (i ++ j)) H)
theorem ip_addA : PIp X .Add rAugAdd := fun pins s σ H x y v u Q I rx ry h => by
  rcases h with h | h
  · exact iop_add pins s σ H x y v u Q I rx ry h
  · exact iop_add_str pins s σ H x y v u Q I rx ry h
theorem aug_add {B : Bs} : AugFit B rAugAdd dAddI := by
  intro z H v w a b d Q sub ha hb hf k
  cases a with
  | int a =>
    cases b with
    | int b => cases hf; exact .inl ⟨a, b, ha.int, hb.int, k _ (.int _)⟩
    | _ => cases hf
  | str a =>
    cases b with
    | str b =>
      simp only [dAddI] at hf
      split at hf
      · rename_i hl; cases hf; exact .inr ⟨a, b, ha.str, hb.str, hl, k _ (.str _)⟩
      · cases hf
    | _ => cases hf
  | _ => cases hf
noncomputable def dMulI : Dt → Dt → Option Val
  | .int a, .int b => if MulOk a b then some (.st (.int (a * b))) else none
  | _, _ => none
theorem ip_sub' : PIp X .Sub (rI0 fun i j => .int (i - j)) := iop_sub
theorem ip_mulA : PIp X .Mult (rI MulOk fun i j => .int (i * j)) := (opI fun _ _ _ _ _ _ _ hc q => imul_int q (by
  rcases hc with h | h
  · exact h.ok
  · exact h.ok) : OpR X (inplaceOp .Mult) (rI MulOk fun i j => .int (i * j)))
theorem ip_divA : PIp X .FloorDiv (rI (fun _ j => DivOk j) fun i j => .int (i / j)) := (opI fun i j _ _ _ _ _ hc q => by
  have h1 : (0 : Int) < j := hc.1
  refine ifloordiv_int (by omega) (by rw [Int.fdiv_eq_ediv_of_nonneg i (by omega)]; exact q) ?_
  rcases hc.2 with h | h
  · exact .inl (PyProof.noPylong_small (by omega))
  · exact .inl (PyProof.noPylong_of_log2 h) : OpR X (inplaceOp .FloorDiv) (rI (fun _ j => DivOk j) fun i j => .int (i / j)))
theorem aug_sub {B : Bs} : AugFit B (rI0 fun i j => .int (i - j)) dSub := aug_of0 fun a b val h => by
  cases a <;> cases b <;> first | (cases h; exact ⟨_, _, rfl, rfl, rfl⟩) | cases h
theorem aug_mul {B : Bs} : AugFit B (rI MulOk fun i j => .int (i * j)) dMulI := aug_of fun a b val h => by
  cases a <;> cases b <;> simp only [dMulI] at h <;> first | cases h | (split at h <;> first | (rename_i hc; cases h; exact ⟨_, _, rfl, rfl, hc, rfl⟩) | cases h)
theorem aug_div {B : Bs} : AugFit B (rI (fun _ j => DivOk j) fun i j => .int (i / j)) dDiv := aug_of fun a b val h => by
  cases a <;> cases b <;> simp only [dDiv] at h <;> first | cases h | (split at h <;> first | (rename_i hc; cases h; exact ⟨_, _, rfl, rfl, hc, rfl⟩) | cases h)
end
end Rf

namespace Rf
open PySem PySem.Spec PyProof.Rows L2

def prep (s : S) : List Val → Option (List Val × S)
  | [] => some ([], s)
  | v :: vs => match v with
    | .sl i => match frz s (.sl i) with
      | none => none
      | some (d, s1) => match prep s1 vs with
        | none => none
        | some (ws, s2) => some (.st d :: ws, s2)
    | v => match prep s vs with
      | none => none
      | some (ws, s2) => some (v :: ws, s2)
def isSl : Val → Bool
  | .sl _ => true
  | _ => false
def slotV : Val → Slot
  | .st d => .fz d
  | .ow d => .ow d
  | .sl _ => .no
def storeAll : List Nat → List Val → S → Option S
  | [], [], s => some s
  | i :: is, v :: vs, s => if i < s.env.length then storeAll is vs { s with env := s.env.set i (slotV v) } else none
  | _, _, _ => none
def setAll : L2.St → List Nat → List V → L2.St
  | σ, [], _ => σ
  | σ, _ :: _, [] => σ
  | σ, i :: is, v :: vs => setAll (σ.set i (some v)) is vs
section
variable {B : Bs} {σ σ0 : L2.St} {z z0 : Fz} {H H0 : Hp} {s s0 : S}
theorem prep_ok : ∀ {vals : List Val} {vs : List V} {z : Fz} {s : S} {ws : List Val} {s' : S}, Stp B σ z0 H0 s0 z H s → VOks B σ H0 z H s vs vals → prep s vals = some (ws, s') →
    ∃ z', Stp B σ z0 H0 s0 z' H s' ∧ VOks B σ H0 z' H s' vs ws ∧ (∀ w ∈ ws, isSl w = false) ∧ z.le z' ∧ (∀ q, Own σ s'.env z' q → Own σ s.env z q) ∧ (∀ q, z.F q = none → ¬ Own σ s.env z q → z'.F q = none) ∧ ∀ (i : Nat) (d : Dt), ws[i]? = some (.ow d) → vals[i]? = some (.ow d)
  | [], _, z, s, _, _, st, h, e => by
    cases h; cases e
    exact ⟨z, st, .nil, (fun _ h => nomatch h), .refl z, fun _ x => x, fun _ x _ => x, fun _ _ h => h⟩
  | val :: vals, _, z, s, ws, s', st, h, e => by
    cases h with
    | @cons v _ vs _ h n r =>
      cases val with
      | sl i =>
        simp only [prep] at e
        cases q : frz s (.sl i) with
        | none => rw [q] at e; cases e
        | some x =>
          obtain ⟨d, s1⟩ := x
          rw [q] at e
          simp only at e
          obtain ⟨z1, st1, r1, le1, ho, k⟩ := frz_ok st h q
          cases q2 : prep s1 vals with
          | none => rw [q2] at e; cases e
          | some x =>
            obtain ⟨ws', s2⟩ := x
            rw [q2] at e; cases e
            have r' := r.keep (z' := z1) (s' := s1) le1 ho fun q a b _ => k q a b fun ⟨_, hd⟩ => by cases hd
            obtain ⟨z2, st2, r2, ns, le2, ho2, k2, sub⟩ := prep_ok st1 r' q2
            refine ⟨z2, st2, .cons ⟨r1.mono le2, fun _ _ e => by cases e⟩ (fun _ _ e => by cases e) r2, fun w hw => ?_, le1.trans le2, fun q y => ho q (ho2 q y), fun q a b => k2 q (k q a b fun ⟨_, hd⟩ => by cases hd) fun y => b (ho q y), fun j d' hj => ?_⟩
            · rcases List.mem_cons.mp hw with rfl | hw
              · rfl
              · exact ns w hw
            · cases j with
              | zero => cases hj
              | succ j => exact sub j d' (by simpa using hj)
      | st d =>
        simp only [prep] at e
        cases q2 : prep s vals with
        | none => rw [q2] at e; cases e
        | some x =>
          obtain ⟨ws', s2⟩ := x
          rw [q2] at e; cases e
          obtain ⟨z2, st2, r2, ns, le2, ho2, k2, sub⟩ := prep_ok st r q2
          refine ⟨z2, st2, .cons ⟨(show Rep B z v d from h.1).mono le2, fun _ _ e => by cases e⟩ (fun _ _ e => by cases e) r2, fun w hw => ?_, le2, ho2, k2, fun j d' hj => ?_⟩
          · rcases List.mem_cons.mp hw with rfl | hw
            · rfl
            · exact ns w hw
          · cases j with
            | zero => exact hj
            | succ j => exact sub j d' (by simpa using hj)
      | ow d =>
        simp only [prep] at e
        cases q2 : prep s vals with
        | none => rw [q2] at e; cases e
        | some x =>
          obtain ⟨ws', s2⟩ := x
          rw [q2] at e; cases e
          obtain ⟨z2, st2, r2, ns, le2, ho2, k2, sub⟩ := prep_ok st r q2
          obtain ⟨p, ho', ev, hp, ro, f, no⟩ := h.1
          refine ⟨z2, st2, .cons ⟨⟨p, ho', ev, hp, ro.mono le2, k2 p f no, fun y => no (ho2 p y)⟩, h.2⟩ (fun d1 p1 e1 e2 i d' e3 => n d1 p1 e1 e2 i d' (sub i d' e3)) r2, fun w hw => ?_, le2, ho2, k2, fun j d' hj => ?_⟩
          · rcases List.mem_cons.mp hw with rfl | hw
            · rfl
            · exact ns w hw
          · cases j with
            | zero => exact hj
            | succ j => exact sub j d' (by simpa using hj)
theorem storeAll_ok : ∀ {is : List Nat} {vals : List Val} {vs : List V} {σ : L2.St} {s s' : S}, StpS B σ0 z0 H0 s0 σ z H s → VOks B σ H0 z H s vs vals → (∀ w ∈ vals, isSl w = false) → storeAll is vals s = some s' →
    StpS B σ0 z0 H0 s0 (setAll σ is vs) z H s' ∧ vs.length = is.length
  | [], [], _, σ, s, s', st, h, _, e => by cases h; cases e; exact ⟨st, rfl⟩
  | i :: is, val :: vals, _, σ, s, s', st, h, ns, e => by
    cases h with
    | @cons v _ vs _ h n r =>
      simp only [storeAll] at e
      split at e
      · have hv := ns val List.mem_cons_self
        have next : StpS B σ0 z0 H0 s0 (σ.set i (some v)) z H { s with env := s.env.set i (slotV val) } ∧ VOks B (σ.set i (some v)) H0 z H { s with env := s.env.set i (slotV val) } vs vals := by
          cases val with
          | sl j => cases hv
          | st d =>
            refine ⟨⟨st.ext, st.good.setFz h.1, fun p q => st.sub p (own_setFz q), by rw [List.length_set]; exact st.len⟩, ?_⟩
            refine VOks.keep' r (fun w hw => ns w (List.mem_cons_of_mem _ hw)) fun q a b _ y => a (own_setFz y)
          | ow d =>
            obtain ⟨p, ho, ev, hp, ro, f, no⟩ := h.1
            have h0 := h.2 d p rfl ev
            subst ev
            refine ⟨⟨st.ext, st.good.setOw hp ro f no, fun q y => ?_, by rw [List.length_set]; exact st.len⟩, ?_⟩
            · rcases own_setOw y with rfl | y
              · exact .inr h0
              · exact st.sub q y
            · refine VOks.keep' r (fun w hw => ns w (List.mem_cons_of_mem _ hw)) fun q a b ⟨j, d', e1, e2⟩ y => ?_
              rcases own_setOw y with rfl | y
              · exact n d q rfl rfl j d' e1 e2
              · exact a y
        obtain ⟨h1, h2⟩ := storeAll_ok next.1 next.2 (fun w hw => ns w (List.mem_cons_of_mem _ hw)) e
        exact ⟨h1, by simp [h2]⟩
      · cases e
  | [], _ :: _, _, _, _, _, _, _, _, e => by simp [storeAll] at e
  | _ :: _, [], _, _, _, _, _, _, _, e => by simp [storeAll] at e
where
  VOks.keep' {σ σ' : L2.St} {s s' : S} : ∀ {vs : List V} {vals : List Val}, VOks B σ H0 z H s vs vals → (∀ w ∈ vals, isSl w = false) →
      (∀ q, ¬ Own σ s.env z q → z.F q = none → (∃ (i : Nat) (d : Dt), vals[i]? = some (Val.ow d) ∧ vs[i]? = some (V.ref q)) → ¬ Own σ' s'.env z q) → VOks B σ' H0 z H s' vs vals
    | _, _, .nil, _, _ => .nil
    | _, _, .cons (v := v) (val := val) h n r, ns, k => by
      refine .cons ⟨?_, h.2⟩ n (VOks.keep' r (fun w hw => ns w (List.mem_cons_of_mem _ hw)) fun q a b ⟨i, d, e1, e2⟩ => k q a b ⟨i + 1, d, by simpa using e1, by simpa using e2⟩)
      cases val with
      | st d => exact h.1
      | sl i => exact absurd (ns _ List.mem_cons_self) (by simp [isSl])
      | ow d =>
        obtain ⟨p, o, e, hp, ro, f, n⟩ := h.1
        exact ⟨p, o, e, hp, ro, f, k p n f ⟨0, d, rfl, by rw [e]; rfl⟩⟩
end
def sPar (is : List Nat) (ms : M (List Val)) : M Flo := fun s => (ms s).bind fun vals s1 => match prep s1 vals with
  | none => .bad
  | some (ws, s2) => match storeAll is ws s2 with
    | some s3 => .ok .nx s3
    | none => .bad
section
variable {X : Cx} {W : WX} {pos : Pos}
theorem rd_par {B : Bs} {is : List Nat} {ms : M (List Val)} : ∀ D σ H, rdS B W (sPar is ms) D σ H → rdA B W ms σ H fun vs H1 => vs.length = is.length ∧ D.nx (setAll σ is vs) H1 := by
  rintro D σ H ⟨z, s, g, h⟩
  refine ⟨z, s, g, (ROL.bindS h).mono fun vs H1 ⟨z1, s1, vals, st1, v1, h1⟩ => ?_⟩
  cases q : prep s1 vals with
  | none => rw [q] at h1; exact h1.elim
  | some x =>
    obtain ⟨ws, s2⟩ := x
    rw [q] at h1
    simp only at h1
    obtain ⟨z2, st2, r2, ns, _⟩ := prep_ok st1 v1 q
    cases q2 : storeAll is ws s2 with
    | none => rw [q2] at h1; exact h1.elim
    | some s3 =>
      rw [q2] at h1
      obtain ⟨st3, hl⟩ := storeAll_ok st2.toS r2 ns q2
      exact ⟨hl, h1 _ _ _ st3⟩
theorem rd_par_new {B : Bs} {is : List Nat} {ms : M (List Val)} : ∀ D σ H, rdS B W (sPar is ms) D σ H → rdA B W ms σ H fun vs H1 => vs.length = is.length ∧ ∀ p, H1 p = none → D.nx (setAll σ is vs) (upd H1 p (.tup vs)) := by
  rintro D σ H ⟨z, s, g, h⟩
  refine ⟨z, s, g, (ROL.bindS h).mono fun vs H1 ⟨z1, s1, vals, st1, v1, h1⟩ => ?_⟩
  cases q : prep s1 vals with
  | none => rw [q] at h1; exact h1.elim
  | some x =>
    obtain ⟨ws, s2⟩ := x
    rw [q] at h1
    simp only at h1
    obtain ⟨z2, st2, r2, ns, _⟩ := prep_ok st1 v1 q
    cases q2 : storeAll is ws s2 with
    | none => rw [q2] at h1; exact h1.elim
    | some s3 =>
      rw [q2] at h1
      obtain ⟨st3, hl⟩ := storeAll_ok st2.toS r2 ns q2
      refine ⟨hl, fun p hp => h1 _ z2 _ ⟨(st3.ext).trans st3.sub (.laid hp), st3.good.laid hp, fun q y => st3.sub q y, st3.len⟩⟩
theorem s_par2 {i j : Nat} {x y : Str} {a b : Expr} {ms : M (List Val)} {px py pt : Pos} {kt k2 pt2} (hc : X.calm = true) (hN : X.N.Nodup) (hi : X.N[i]? = some x) (hj : X.N[j]? = some y) (hij : i ≠ j)
    (hx : X.env.scope.names.lookup x = some .local) (hy : X.env.scope.names.lookup y = some .local) (ha : PA X [a, b] (rdA (bs X) W ms))
    (hw : swappedStores [.Tuple [.Name x px, .Name y py] kt pt] (.Tuple [a, b] k2 pt2) X.env = pure (some [x, y]))
    (hs : swapsWithSole [.Tuple [.Name x px, .Name y py] kt pt] (.Tuple [a, b] k2 pt2) pos.line X.env = pure false) :
    PS X (.Assign [.Tuple [.Name x px, .Name y py] kt pt] (.Tuple [a, b] k2 pt2) pos) (rdS (bs X) W (sPar [i, j] ms)) :=
  ps_weak (ps_par hc hN hi hj hij hx hy ha hw hs) fun D σ H h => by
    obtain ⟨z, s, g, h1⟩ := rd_par D σ H h
    refine ⟨z, s, g, h1.mono fun vs H1 ⟨hl, q⟩ => ?_⟩
    match vs, hl, q with
    | [v, w], _, q => exact ⟨v, w, rfl, q⟩
theorem s_par3 {i j l : Nat} {x y w : Str} {a b c : Expr} {ms : M (List Val)} {px py pz pt : Pos} {kt k2 pt2} (hc : X.calm = true) (hN : X.N.Nodup) (hi : X.N[i]? = some x) (hj : X.N[j]? = some y) (hl : X.N[l]? = some w) (hij : i ≠ j) (hil : i ≠ l) (hjl : j ≠ l)
    (hx : X.env.scope.names.lookup x = some .local) (hy : X.env.scope.names.lookup y = some .local) (hz : X.env.scope.names.lookup w = some .local) (ha : PA X [a, b, c] (rdA (bs X) W ms))
    (hw : swappedStores [.Tuple [.Name x px, .Name y py, .Name w pz] kt pt] (.Tuple [a, b, c] k2 pt2) X.env = pure (some [x, y, w]))
    (hs : swapsWithSole [.Tuple [.Name x px, .Name y py, .Name w pz] kt pt] (.Tuple [a, b, c] k2 pt2) pos.line X.env = pure false) :
    PS X (.Assign [.Tuple [.Name x px, .Name y py, .Name w pz] kt pt] (.Tuple [a, b, c] k2 pt2) pos) (rdS (bs X) W (sPar [i, j, l] ms)) :=
  ps_weak (ps_par3 hc hN hi hj hl hij hil hjl hx hy hz ha hw hs) fun D σ H h => by
    obtain ⟨z, s, g, h1⟩ := rd_par D σ H h
    refine ⟨z, s, g, h1.mono fun vs H1 ⟨hl, q⟩ => ?_⟩
    match vs, hl, q with
    | [u, v, w], _, q => exact ⟨u, v, w, rfl, q⟩
def gNs : List Nat → TGs
  | [] => gNil
  | i :: is => gCons (gName i) (gNs is)
theorem gNs_of : ∀ {is : List Nat} {vs : List V} {σ : L2.St} {H : Hp} {Q : L2.St → Hp → Prop}, vs.length = is.length → Q (setAll σ is vs) H → gNs is vs σ H Q
  | [], [], _, _, _, _, q => ⟨rfl, q⟩
  | i :: is, v :: vs, σ, H, Q, hl, q => ⟨v, vs, rfl, gNs_of (is := is) (by simpa using hl) q⟩
theorem s_parN {ts es : List Expr} {is : List Nat} {ms : M (List Val)} {kt k2 : Nat} {pt pt2 : Pos} (hc : X.calm = true) (ht : PGs X ts (gNs is)) (hn : (assignEach ts X.env).length = is.length) (hst : (assignEach ts X.env).findIdx? (·.1) = none) (ha : PA X es (rdA (bs X) W ms)) (hz : es.length ≤ sizeLine) (hlen : es.length = is.length)
    (hw : swappedStores [.Tuple ts kt pt] (.Tuple es k2 pt2) X.env = pure none) (hs : swapsWithSole [.Tuple ts kt pt] (.Tuple es k2 pt2) pos.line X.env = pure false) (h1 : (assignEach [.Tuple ts kt pt] X.env).map (·.2) = [assign (.Tuple ts kt pt) X.env]) :
    PS X (.Assign [.Tuple ts kt pt] (.Tuple es k2 pt2) pos) (rdS (bs X) W (sPar is ms)) :=
  ps_weak (ps_asg (pe_tup ha) (pg_tup hc ht hn hst) hs hw h1) fun D σ H h => by
    obtain ⟨z, s, g, h1⟩ := rd_par_new D σ H h
    refine ⟨z, s, g, h1.mono fun vs H1 ⟨hl, q⟩ => ⟨by rw [hl, ← hlen]; exact hz, fun p hp => ⟨p, vs, rfl, .of upd_same, hl, gNs_of hl (q p hp)⟩⟩⟩
def sUnp (t : Tg) (m : M Val) : M Flo := fun s => (m s).bind fun v s1 => match frz s1 v with
  | none => .bad
  | some (d, s2) => match stT t d s2 with
    | some s3 => .ok .nx s3
    | none => .bad
theorem s_unp {tg e : Expr} {t : Tg} {m : M Val} (he : PE X e (rdE (bs X) W m)) (hg : PG X tg (rdT (bs X) t)) (hs : swapsWithSole [tg] e pos.line X.env = pure false) (hw : swappedStores [tg] e X.env = pure none) (h1 : (assignEach [tg] X.env).map (·.2) = [assign tg X.env]) :
    PS X (.Assign [tg] e pos) (rdS (bs X) W (sUnp t m)) :=
  ps_weak (ps_asg he hg hs hw h1) fun D σ H ⟨z, s, g, h⟩ => ⟨z, s, g, (RO.bindS h).mono fun v H1 ⟨z1, s1, val, st1, v1, h1⟩ => by
    cases q : frz s1 val with
    | none => rw [q] at h1; exact h1.elim
    | some x =>
      obtain ⟨d, s2⟩ := x
      rw [q] at h1
      simp only at h1
      obtain ⟨z2, st2, r2, _⟩ := frz_ok st1 v1 q
      cases q2 : stT t d s2 with
      | none => rw [q2] at h1; exact h1.elim
      | some s3 =>
        rw [q2] at h1
        exact ⟨z2, s2, d, s3, st2.good, r2, q2, fun σ' R => h1 _ _ _ (st2.toS.trans R.toS)⟩⟩

def rGetL (K : PySem.W.Frag) : V → V → Hp → VK → Prop := fun o i H Q => rIxL K o i H Q
theorem get_list : PGet X (rGetL X.K) := by
  intro pins s σ H x y v u Q I rx ry h
  obtain ⟨p, xs, i, z, rfl, rfl, hq, he, q⟩ := h
  cases rx
  obtain ⟨t, rfl⟩ := ry
  obtain ⟨its, r, pl, hz⟩ := I.list hq
  obtain ⟨j, h1, h2, h3, h4, h5⟩ := atI_get he
  obtain ⟨w, ew, rw'⟩ := r.get h2
  have hl := r.length
  have hn := line63
  have fin : EP X pins σ Q w s := ⟨z, H, I, rw', q⟩
  by_cases h0 : 0 ≤ i
  · have hj : i.toNat = j := by
      rw [seqIndex_of h0 h5] at h1
      exact Option.some.inj h1
    exact wpAny_getItem_list pl.isList h0 (by omega) (by rw [hj]; simpa using ew) fin
  · have hj : (i + (its.toArray.size : Int)).toNat = j := by
      rw [seqIndex_neg (by omega) h4] at h1
      rw [List.size_toArray, ← hl]
      exact Option.some.inj h1
    exact wpAny_getItem_list_neg pl.isList (by omega) (by rw [List.size_toArray] <;> omega) (by omega) (by rw [hj]; simpa using ew) fin
def sAugIx (f : Dt → Dt → Option Val) (mo mi me : M Val) : M Flo := fun s => (mo s).bind fun vo s1 => (mi s1).bind fun vi s2 => match ownL s2 vo, peek s2 vi with
  | some (i, xs), some (.int k) => match atI xs k with
    | none => .bad
    | some a => (me s2).bind fun ve s3 => match peek s3 ve with
      | none => .bad
      | some b => match f a b, ownL s3 (.sl i) with
        | some (.st d), some (_, xs') => match ixN xs'.length k with
          | some j => .ok .nx { s3 with env := s3.env.set i (.ow (.list (xs'.set j d))) }
          | none => .bad
        | _, _ => .bad
  | _, _ => .bad
theorem s_augIx {o i e : Expr} {op : Operator} {r : TIp} {f : Dt → Dt → Option Val} {tpos : Pos} {mo mi me : M Val} (ho : PE X o (rdE (bs X) W mo)) (hi : PE X i (rdE (bs X) W mi)) (he : PE X e (rdE (bs X) W me)) (hp : PIp X op r) (hf : AugFit (bs X) r f)
    (ha : ∀ ov iv new, augStore i ov iv new = (do holding [new, ov, iv] (setItem ov iv new); release [new, ov, iv] []; pure .next)) : PS X (.AugAssign (.Subscript o i tpos) op e pos) (rdS (bs X) W (sAugIx f mo mi me)) := by
  refine ps_weak (ps_augS ho hi get_list he hp set_list ha) fun D σ H ⟨z, s, g, h⟩ => ?_
  refine ⟨z, s, g, (RO.bindS h).mono fun ov H1 ⟨z1, s1, vo, st1, v1, h1⟩ => ?_⟩
  refine ⟨z1, s1, st1.good, (RO.bindS' st1 h1).mono fun iv H2 ⟨z2, s2, vi, st2, v2, h2⟩ => ?_⟩
  have st12 := st1.trans st2
  cases q : ownL s2 vo with
  | none => rw [q] at h2; exact h2.elim
  | some x =>
    obtain ⟨n, xs⟩ := x
    rw [q] at h2
    obtain ⟨rfl, e2⟩ := ownL_at q
    cases q1 : peek s2 vi with
    | none => rw [q1] at h2; exact h2.elim
    | some di =>
      rw [q1] at h2
      cases di with
      | int k =>
        simp only at h2
        have hk : iv = .int k := (peek_now st2.good v2 q1).int
        subst hk
        have hσ : σ[n]? = some (some ov) := v1.1
        obtain ⟨p, vs, ep, hp', rv, _, _⟩ := st2.good.ownL e2 hσ
        subst ep
        cases q2 : atI xs k with
        | none => rw [q2] at h2; exact h2.elim
        | some a =>
          rw [q2] at h2
          simp only at h2
          obtain ⟨u, hu, ru⟩ := atI_reps rv q2
          refine ⟨p, vs, k, u, rfl, rfl, .of hp', hu, z2, s2, st2.good, (RO.bindS' st12 h2).mono fun w H3 ⟨z3, s3, ve, st3, v3, h3⟩ => ?_⟩
          cases q3 : peek s3 ve with
          | none => rw [q3] at h3; exact h3.elim
          | some b =>
            rw [q3] at h3
            simp only at h3
            cases q4 : f a b with
            | none => rw [q4] at h3; exact h3.elim
            | some val =>
              rw [q4] at h3
              cases val with
              | st d =>
                cases q5 : ownL s3 (.sl n) with
                | none => rw [q5] at h3; exact h3.elim
                | some x =>
                  obtain ⟨n', xs'⟩ := x
                  rw [q5] at h3
                  simp only at h3
                  obtain ⟨en, e3⟩ := ownL_at q5
                  cases en
                  obtain ⟨p', vs', ep, hp3, rv3, _, at3⟩ := st3.good.ownL e3 hσ
                  cases ep
                  cases q6 : ixN xs'.length k with
                  | none => rw [q6] at h3; exact h3.elim
                  | some j =>
                    rw [q6] at h3
                    refine hf z3 H3 u w a b d _ st3.good.sub (.inl (ru.mono st3.ext.le)) (peek_now st3.good v3 q3) q4 fun y ry => ?_
                    exact ⟨p, vs', k, j, rfl, rfl, hp3, by rw [rv3.length]; exact q6, h3 _ _ _ ((st12.trans st3).trans (.change st3.good at3 (.lst (rv3.set ry j)))).toS⟩
              | _ => exact h3.elim
      | _ => exact h2.elim
end
end Rf

namespace Rf
open PySem PySem.Spec PyProof.Rows L2

inductive FV where
  | st (d : Dt) | ow (d : Dt)
inductive FR where
  | ret (v : FV) (am : Option Src) | ex (e : Ex) (am : Option Src) | bad
abbrev FnD := List Dt → Option Src → FR
def spOf (B : Bs) (n : Nat) (f : FnD) : Sp := fun vs H Q E => vs.length = n ∧ ∃ z ds am, Sub z H ∧ Reps B z vs ds ∧ AmbOk z H am ∧
  match f ds am with
  | .ret (.st d) am' => ∀ z' H' v, Ext (AmbAt z) z H z' H' → Sub z' H' → AmbOk z' H' am' → Rep B z' v d → Q v H'
  | .ret (.ow d) am' => ∀ z' H' p ho, Ext (AmbAt z) z H z' H' → Sub z' H' → AmbOk z' H' am' → H' p = some ho → OwnO B z' d ho → z'.F p = none → H p = none → ¬ AmbAt z' p → Q (.ref p) H'
  | .ex e am' => ∀ z' H' cls d, Ext (AmbAt z) z H z' H' → AmbOk z' H' am' → ExAt B z' H' e cls d → E cls d H'
  | .bad => False

def startS (n : Nat) (ds : List Dt) (am : Option Src) : S := ⟨ds.map Slot.fz ++ List.replicate (n - ds.length) Slot.no, am⟩
def toFV (s : S) : Val → FR
  | .st d => .ret (.st d) s.am
  | .ow d => .ret (.ow d) s.am
  | .sl i => match s.env[i]? with
    | some (.fz d) => .ret (.st d) s.am
    | some (.ow d) => .ret (.ow d) s.am
    | _ => .bad
def runF (n : Nat) (m : M Flo) : FnD := fun ds am => match m (startS n ds am) with
  | .ok .nx s => .ret (.st .none) s.am
  | .ok (.rt v) s => toFV s v
  | .ex e am => .ex e am
  | _ => .bad
section
variable {B : Bs} {z z1 z2 : Fz} {H H0 H1 H2 : Hp} {σ : L2.St} {s s1 s2 : S}
theorem startS_no {n : Nat} {ds : List Dt} {am : Option Src} {i : Nat} {d : Dt} : (startS n ds am).env[i]? = some (.ow d) → False := fun h => by
  unfold startS at h
  by_cases hi : i < ds.length
  · rw [List.getElem?_append_left (by simpa using hi), List.getElem?_map] at h
    cases e : ds[i]? with
    | none => rw [e] at h; cases h
    | some x => rw [e] at h; cases h
  · rw [List.getElem?_append_right (by simpa using hi), List.getElem?_replicate] at h
    split at h <;> cases h
theorem good_start {N : List Str} {vs : List V} {ds : List Dt} {am : Option Src} (sub : Sub z H) (r : Reps B z vs ds) (a : AmbOk z H am) : Good B z H (L2.start N vs) (startS N.length ds am) := by
  refine ⟨?_, sub, fun i x o e1 e2 => ?_, fun i j p h _ => (startS_no h.choose_spec.1).elim, a, fun i p h => (startS_no h.choose_spec.1).elim⟩
  · unfold startS L2.start
    simp [r.length]
  · unfold startS at e1
    unfold L2.start at e2
    by_cases hi : i < ds.length
    · have hi' : i < vs.length := by rw [r.length]; exact hi
      rw [List.getElem?_append_left (by simpa using hi), List.getElem?_map] at e1
      rw [List.getElem?_append_left (by simpa using hi'), List.getElem?_map] at e2
      have ed : ds[i]? = some ds[i] := by simp [hi]
      obtain ⟨v, ev, rv⟩ := r.getD ed
      rw [ed] at e1; rw [ev] at e2
      cases e1; cases e2
      exact ⟨v, rfl, rv⟩
    · rw [List.getElem?_append_right (by simpa using hi), List.getElem?_replicate] at e1
      split at e1
      · cases e1; trivial
      · cases e1
theorem own_start {N : List Str} {vs : List V} {n : Nat} {ds : List Dt} {am : Option Src} {p : Addr} (h : Own (L2.start N vs) (startS n ds am).env z p) : AmbAt z p := by
  rcases h with h | ⟨i, d, e, _⟩
  · exact h
  · exact (startS_no e).elim
theorem body_ok {N : List Str} {m : M Flo} {n : Nat} {vs : List V} {H : Hp} {Q : VK} {E : XK} (h : spOf B n (runF N.length m) vs H Q E) :
    rdS B (fun cls d _ H => E cls d H) m { nx := fun _ H' => Q .non H', rt := Q } (L2.start N vs) H := by
  obtain ⟨_, z, ds, am, sub, r, a, h⟩ := h
  refine ⟨z, startS N.length ds am, good_start sub r a, ?_⟩
  unfold runF at h
  cases e : m (startS N.length ds am) with
  | bad => rw [e] at h; exact h.elim
  | ex er am' =>
    rw [e] at h
    exact fun z' H' cls d _ _ ext a' x => h z' H' cls d (ext.mono fun p q => own_start q) a' x
  | ok g s' =>
    rw [e] at h
    have mono : ∀ {z' H'}, Ext (Own (L2.start N vs) (startS N.length ds am).env z) z H z' H' → Ext (AmbAt z) z H z' H' := fun x => x.mono fun p q => own_start q
    cases g with
    | bk => exact h.elim
    | ct => exact h.elim
    | nx => exact fun σ' z' H' st => h z' H' .non (mono st.ext) st.good.sub st.good.amb .non
    | rt val =>
      intro σ' z' H' v st vk
      cases val with
      | st d => exact h z' H' v (mono st.ext) st.good.sub st.good.amb vk.1
      | ow d =>
        obtain ⟨p, ho, ev, hp, ro, f, no⟩ := vk.1
        have h0 := vk.2 d p rfl ev
        subst ev
        exact h z' H' p ho (mono st.ext) st.good.sub st.good.amb hp ro f h0 fun y => no (.inl y)
      | sl i =>
        have hσ : σ'[i]? = some (some v) := vk.1
        simp only [toFV] at h
        cases q : s'.env[i]? with
        | none => rw [q] at h; exact h.elim
        | some x =>
          rw [q] at h
          have hs := st.good.slots i x _ q hσ
          cases x with
          | no => exact h.elim
          | fz d =>
            obtain ⟨v', ev, rv⟩ := hs
            cases ev
            exact h z' H' v (mono st.ext) st.good.sub st.good.amb rv
          | ow d =>
            obtain ⟨p, ho, ev, hp, ro, f⟩ := hs
            cases ev
            have at_ : SlotAt σ' s'.env i p := ⟨d, q, hσ⟩
            have nA := st.good.ambS i p at_
            refine h z' H' p ho (mono st.ext) st.good.sub st.good.amb hp ro f ?_ nA
            rcases st.sub p (.inr ⟨i, at_⟩) with y | y
            · exfalso
              obtain ⟨a, c, e1, e2⟩ := own_start y
              exact nA ⟨a, c, st.ext.le.sa _ e1, e2⟩
            · exact y
end
structure FnG (P : Program) (w : World) (K : PySem.W.Frag) (mg : Str → Option Value) (base : Heap) (CX : CXT) (k : Nat) (f : Addr) (fd : FuncData) (ps : List Str) (sp : Sp) : Prop where
  len : ∀ vs H Q E, sp vs H Q E → vs.length = ps.length
  run : ∀ (A : Around) (outer : List Env) (s : Shared) (H : Hp) (args : Args) (us : List Value) (vs : List V) (Q : VK) (E : XK), A.guards = some [] → Room k A → Env0 P w K mg base A outer s H → BindsTo s fd args (ps.zip us) → Vals vs us → sp vs H Q E →
    codeAny (model P w) A (.call (.ref f) args) (CR CX outer P w H s Q E) s
theorem FnG.mono {P : Program} {w : World} {K : PySem.W.Frag} {mg : Str → Option Value} {base : Heap} {CX : CXT} {j k : Nat} {f : Addr} {fd : FuncData} {ps : List Str} {sp : Sp} (F : FnG P w K mg base CX j f fd ps sp) (h : j ≤ k) : FnG P w K mg base CX k f fd ps sp :=
  ⟨F.len, fun A outer s H args us vs Q E hg hr => F.run A outer s H args us vs Q E hg (hr.mono h)⟩
section
variable {P : Program} {w : World} {K : PySem.W.Frag} {mg : Str → Option Value} {base : Heap} {x qual : Str} {params : Arguments} {body : List Stmt} {scope : Scope} {f : Addr} {fd : FuncData} {N ps : List Str} {k : Nat} {m : M Flo}
theorem fnG_of {CX : CXT} {dvs : List V} {kws : List (Str × V)} {sp : Sp} (F : FunD K x qual params body scope dvs kws f fd) (S : FnScope N ps scope) (len : ∀ vs H Q E, sp vs H Q E → vs.length = ps.length)
    (hbody : ∀ (cdv : Value) (A : Around) (outer : List Env) (s : Shared) (H : Hp) (vs : List V) (Q : VK) (E : XK), A.guards = some [] → Room k (A.deeper (envOfC qual scope s.heap.objs.size f cdv)) → sp vs H Q E →
      ∃ t, PSs (cxOf CX P w K mg base N qual scope f cdv A outer s H E) body t ∧ t { nx := fun _ H' => Q .non H', rt := Q } (L2.start N vs) H) : FnG P w K mg base CX (k + 1) f fd ps sp := by
  obtain ⟨oc, od, dV, kV, doc, pm, an, cdv, ct, osl, rfl, lk, hcd, _, _⟩ := F.ex
  refine ⟨len, fun A outer s H args us vs Q E hgd hr e0 hb r hsp => ?_⟩
  have hl := len _ _ _ _ hsp
  have KX : K.In s.heap := e0.mod.kin.keeps fun b o e => (e0.bs b o e).1
  have lim : s.heap.NoLimit := e0.mod.nolimit.keeps fun b o e => (e0.bs b o e).1
  have hkind : ∀ y ∈ ps.zip us, scope.names.lookup y.1 = some .local ∨ (scope.names.lookup y.1 = some .cell ∧ ((cellsFrom (s.heap.objs.size + 1) scope.names []).lookup y.1).isSome = true) := fun ⟨n, v⟩ hy => by
    rcases S.par n (List.of_mem_zip hy).1 with q | q
    · exact .inl q
    · exact .inr ⟨q, PySem.W.cellsFrom_some _ _ _ (.inl q)⟩
  refine codeAny_call_function hr.depth (KX _ _ lk) rfl S.co S.gen rfl (PySem.W.codeRec_of KX hcd) (hb _ _ _ _ ?_)
  refine wpAny_newFunctionEnv_cells S.kind hkind fun env he s1 x => ?_
  subst he
  refine ⟨lim.keeps x.toInCall.keep, codeAny_func ?_⟩
  obtain ⟨t, ht, hq⟩ := hbody cdv A outer s H vs Q E hgd (hr.deeper _) hsp
  have I : Inv (cxOf CX P w K mg base N qual scope f cdv A outer s H E) [] (L2.start N vs) H s1 := inv_start S hr.hd e0 hl r x
  refine wpAny_mono (ht.run [] s1 (L2.start N vs) H _ I hq) (fun fl s' hs => ?_) fun e s' hs => hs
  have fin : ∀ {σ' : L2.St} {H' : Hp} {v : V} {u : Value}, Inv (cxOf CX P w K mg base N qual scope f cdv A outer s H E) [] σ' H' s' → RelV v u → Q v H' → CE outer P w H s Q u s' :=
    fun {σ' H' v u} J rv q => ⟨v, H', J.os, J.bare, J.base, J.hok, rv, q⟩
  cases fl with
  | ret u =>
    obtain ⟨v, σ', H', J, rv, q⟩ := hs
    exact fin J rv q
  | next =>
    obtain ⟨σ', H', J, q⟩ := hs
    exact fin (v := V.non) (u := Value.none) J rfl q
  | brk =>
    obtain ⟨_, _, _, q⟩ := hs
    exact False.elim q
  | cont =>
    obtain ⟨_, _, _, q⟩ := hs
    exact False.elim q
theorem fn_ok {dvs : List V} {kws : List (Str × V)} (F : FunD K x qual params body scope dvs kws f fd) (S : FnScope N ps scope)
    (hb : ∀ (cdv : Value) (A : Around) (outer : List Env) (s : Shared) (H : Hp) (E : XK), A.guards = some [] → Room k (A.deeper (envOfC qual scope s.heap.objs.size f cdv)) →
      PSs (cxOf (L2.CX P w) P w K mg base N qual scope f cdv A outer s H E) body (rdS ⟨K, mg⟩ (fun cls d _ H => E cls d H) m)) :
    FnG P w K mg base (L2.CX P w) (k + 1) f fd ps (spOf ⟨K, mg⟩ ps.length (runF N.length m)) :=
  fnG_of F S (fun vs H Q E h => h.1) fun cdv A outer s H vs Q E hgd hr h => ⟨_, hb cdv A outer s H E hgd hr, body_ok h⟩
end
section
variable {X : Cx} {CX : CXT} {k : Nat} {f : Addr} {fd : FuncData} {ps : List Str} {sp : Sp} {E : L2.St → XK}
theorem run_fnG {pins : List (Addr × Obj)} {σ : L2.St} {H : Hp} {s : Shared} {Q : VK} {us : List Value} {vs : List V} (F : FnG X.prog X.w X.K X.mg X.base CX k f fd ps sp) (hgd : X.A.guards = some []) (hr : Room k X.A) (hb : Binds X.K fd ps []) (hx : PassesAt CX X σ (E σ))
    (I : Inv X pins σ H s) (r : Vals vs us) (h : sp vs H Q (E σ)) : wpAny (model X.prog X.w) X.A (call (.ref f) us) (EP X pins σ Q) X.xe s := by
  have hl : us.length = ps.length := by rw [← r.length]; exact F.len _ _ _ _ h
  have b := hb s us I.kIn (by rw [List.append_nil]; exact hl)
  rw [List.append_nil] at b
  refine wpAny_call (codeAny_mono (F.run X.A X.stack s H ⟨us, []⟩ us vs Q (E σ) hgd hr I.env0 b r h) fun r s' hq => ?_)
  cases r with
  | error e => exact hx pins H s e s' I hq
  | ok fl =>
    cases fl with
    | ret u => exact I.after hq
    | next => exact False.elim hq
    | brk => exact False.elim hq
    | cont => exact False.elim hq
end

mutual
def noRef : Dt → Bool
  | .tuple ds => noRefs ds
  | .list _ => false
  | .dict _ => false
  | .none => true
  | .bool _ => true
  | .int _ => true
  | .str _ => true
def noRefs : List Dt → Bool
  | [] => true
  | d :: ds => noRef d && noRefs ds
end
def noRefV : List (Dt × Dt) → Bool
  | [] => true
  | (_, d) :: r => noRef d && noRefV r
def noRefO : Dt → Bool
  | .list ds => noRefs ds
  | .dict kvs => noRefV kvs
  | _ => false
noncomputable def Fz.back (z : Fz) (p : Addr → Prop) : Fz := ⟨fun a => @ite _ (p a) (Classical.propDecidable _) none (z.F a), z.sa⟩
section
variable {B : Bs} {z z1 z2 z3 : Fz} {H H0 H1 H2 H3 : Hp} {σ : L2.St} {s s1 s2 : S}
theorem back_in {p : Addr → Prop} {a : Addr} (h : p a) : (z.back p).F a = none := if_pos h
theorem back_out {p : Addr → Prop} {a : Addr} (h : ¬ p a) : (z.back p).F a = z.F a := if_neg h
theorem back_sub {p : Addr → Prop} {a : Addr} {o : HO} (h : (z.back p).F a = some o) : z.F a = some o := by
  by_cases q : p a
  · rw [back_in q] at h; cases h
  · rw [back_out q] at h; exact h
mutual
theorem Rep.back {p : Addr → Prop} (hp : ∀ a xs, p a → ¬ Rd z.F a (.tup xs)) : ∀ {v : V} {d : Dt}, Rep B z v d → noRef d = true → Rep B (z.back p) v d
  | _, _, .non, _ => .non
  | _, _, .bl b, _ => .bl b
  | _, _, .int i, _ => .int i
  | _, _, .str x, _ => .str x
  | _, _, .lst s r, q => by simp [noRef] at q
  | _, _, .tup (a := a) (xs := vs) s pl r, q => by
    have nP : PlainT B.K z.F a vs → PlainT B.K (z.back p).F a vs := fun y => by
      rcases y with ⟨o, y, e⟩ | y
      · exact .inl ⟨o, (back_out fun w => hp _ _ w (.inr ⟨o, y⟩)).trans y, e⟩
      · exact .inr y
    refine .tup ?_ (pl.imp nP id) (Reps.back hp r (by simpa [noRef] using q))
    rcases s with s | s
    · have n : ¬ p a := fun y => hp _ _ y s
      rcases s with s | ⟨o, s⟩
      · exact .inl (.inl ((back_out n).trans s))
      · exact .inl (.inr ⟨o, (back_out n).trans s⟩)
    · exact .inr s
  | _, _, .dic s r, q => by simp [noRef] at q
  | _, _, .fn e, q => by simp [noRef] at q
  | _, _, .src e, q => by simp [noRef] at q
  | _, _, .scr s r, q => by simp [noRef] at q
theorem Reps.back {p : Addr → Prop} (hp : ∀ a xs, p a → ¬ Rd z.F a (.tup xs)) : ∀ {vs : List V} {ds : List Dt}, Reps B z vs ds → noRefs ds = true → Reps B (z.back p) vs ds
  | _, _, .nil, _ => .nil
  | _, _, .cons r rs, q => by
    simp only [noRefs, Bool.and_eq_true] at q
    exact .cons (Rep.back hp r q.1) (Reps.back hp rs q.2)
end
theorem KReps.back {p : Addr → Prop} (hp : ∀ a xs, p a → ¬ Rd z.F a (.tup xs)) : ∀ {vs : List (Key × V)} {ds : List (Dt × Dt)}, KReps B z vs ds → noRefV ds = true → KReps B (z.back p) vs ds
  | _, _, .nil, _ => .nil
  | _, _, .cons r rs, q => by
    simp only [noRefV, Bool.and_eq_true] at q
    exact .cons (Rep.back hp r q.1) (KReps.back hp rs q.2)
theorem OwnO.back {p : Addr → Prop} (hp : ∀ a xs, p a → ¬ Rd z.F a (.tup xs)) {d : Dt} {o : HO} (h : OwnO B z d o) (q : noRefO d = true) : OwnO B (z.back p) d o := by
  cases h with
  | lst r => exact .lst (r.back hp (by simpa [noRefO] using q))
  | dK r => exact .dK (r.back hp (by simpa [noRefO] using q))
theorem Good.called (g : Good B z H σ s) (e : Ext (AmbAt z) z H z2 H2) (sub : Sub z2 H2) {am : Option Src} (a : AmbOk z2 H2 am) : Good B z2 H2 σ ⟨s.env, am⟩ := by
  refine ⟨g.len, sub, fun i x o e1 e2 => (g.slots i x o e1 e2).mono e.le fun p u e3 ⟨d, e4⟩ hp f => ?_, g.apart, a, fun i p h y => ?_⟩
  · have at_ : SlotAt σ s.env i p := ⟨d, by rw [← e4]; exact e1, by rw [← e3]; exact e2⟩
    have nA := g.ambS i p at_
    refine ⟨e.keep p u hp nA, ?_⟩
    cases q : z2.F p with
    | none => rfl
    | some u' =>
      rcases e.new p u' q with y | y | y
      · rw [f] at y; cases y
      · exact absurd y nA
      · rw [hp] at y; cases y
  · obtain ⟨_, ho, _, _, hp, _, _⟩ := g.slotAt h
    obtain ⟨a', c, e1, e2⟩ := y
    rcases e.newS a' c e1 with y | ⟨y1, y2⟩
    · exact g.ambS i p h ⟨a', c, y, e2⟩
    · rcases e2 with rfl | rfl
      · rw [hp] at y1; cases y1
      · rw [hp] at y2; cases y2
theorem Stp.called (g : Good B z H σ s) (e : Ext (AmbAt z) z H z2 H2) (sub : Sub z2 H2) {am : Option Src} (a : AmbOk z2 H2 am) : Stp B σ z H s z2 H2 ⟨s.env, am⟩ := by
  refine ⟨e.mono fun p y => .inl y, g.called e sub a, fun p y => ?_⟩
  rcases y with ⟨a', c, e1, e2⟩ | y
  · rcases e.newS a' c e1 with y | ⟨y1, y2⟩
    · exact .inl (.inl ⟨a', c, y, e2⟩)
    · rcases e2 with rfl | rfl
      · exact .inr y1
      · exact .inr y2
  · exact .inl (.inr y)
theorem amb_same {p : Addr} (sa : z2.sa = z1.sa) (h : AmbAt z2 p) : AmbAt z1 p := by
  obtain ⟨a, c, e1, e2⟩ := h
  exact ⟨a, c, by rw [← sa]; exact e1, e2⟩
theorem lent_keep (g : Good B z1 H1 σ s1) (sa : z2.sa = z1.sa) (e : Ext (AmbAt z2) z2 H1 z3 H3) {i : Nat} {p : Addr} (h : SlotAt σ s1.env i p) {u : HO} (hp : H1 p = some u) : H3 p = some u :=
  e.keep p u hp fun y => g.ambS i p h (amb_same sa y)
theorem lent_le (g : Good B z1 H1 σ s1) (le : z1.le z2) (e : Ext (AmbAt z2) z2 H1 z3 H3) : z1.le (z3.back fun p => ∃ i, SlotAt σ s1.env i p) := by
  refine ⟨fun a o h => ?_, fun p h => e.le.sa p (le.sa p h)⟩
  rw [back_out]
  · exact e.le.F a o (le.F a o h)
  · rintro ⟨i, y⟩
    obtain ⟨_, _, _, _, _, _, f⟩ := g.slotAt y
    rw [f] at h; cases h
theorem Good.lent (g : Good B z1 H1 σ s1) (le : z1.le z2) (sa : z2.sa = z1.sa) (e : Ext (AmbAt z2) z2 H1 z3 H3) (sub : Sub z3 H3) {am : Option Src} (a : AmbOk z3 H3 am) : Good B (z3.back fun p => ∃ i, SlotAt σ s1.env i p) H3 σ ⟨s1.env, am⟩ := by
  have lee := lent_le g le e
  refine ⟨g.len, fun x o h => sub x o (back_sub h), fun i x o e1 e2 => (g.slots i x o e1 e2).mono lee fun p u e3 ⟨d, e4⟩ hp f => ?_, g.apart, ?_, fun i p h y => ?_⟩
  · have at_ : SlotAt σ s1.env i p := ⟨d, by rw [← e4]; exact e1, by rw [← e3]; exact e2⟩
    exact ⟨lent_keep g sa e at_ hp, back_in ⟨i, at_⟩⟩
  · show AmbOk _ _ am
    cases e' : am with
    | none => rw [e'] at a; exact a
    | some r =>
      rw [e'] at a
      obtain ⟨p, c, e1, n, h1, h2, h3, h4⟩ := a
      refine ⟨p, c, e1, n, h1, h2, ?_, ?_⟩
      · by_cases q : ∃ i, SlotAt σ s1.env i p
        · exact back_in q
        · rw [back_out q]; exact h3
      · by_cases q : ∃ i, SlotAt σ s1.env i c
        · exact back_in q
        · rw [back_out q]; exact h4
  · obtain ⟨_, ho, _, _, hp, _, _⟩ := g.slotAt h
    obtain ⟨a', c, e1, e2⟩ := y
    rcases e.newS a' c e1 with y | ⟨y1, y2⟩
    · exact g.ambS i p h ⟨a', c, by rw [← sa]; exact y, e2⟩
    · rcases e2 with rfl | rfl
      · rw [hp] at y1; cases y1
      · rw [hp] at y2; cases y2
theorem Stp.lent (st1 : Stp B σ z H s z1 H1 s1) (st2 : Stp B σ z H s z2 H1 s2) (le : z1.le z2) (sa : z2.sa = z1.sa) (e : Ext (AmbAt z2) z2 H1 z3 H3) (sub : Sub z3 H3) {am : Option Src} (a : AmbOk z3 H3 am) : Stp B σ z H s (z3.back fun p => ∃ i, SlotAt σ s1.env i p) H3 ⟨s1.env, am⟩ := by
  have lee := lent_le st1.good le e
  have ee := st2.ext.trans st2.sub (e.mono (own := Own σ s2.env z2) fun p y => .inl y)
  refine ⟨⟨ee.keep, ee.there, st1.ext.le.trans lee, fun a o h => ee.new a o (back_sub h), fun a c h => ee.newS a c h⟩, st1.good.lent le sa e sub a, fun p y => ?_⟩
  rcases y with ⟨a', c, e1, e2⟩ | y
  · rcases ee.newS a' c e1 with y | ⟨y1, y2⟩
    · exact .inl (.inl ⟨a', c, y, e2⟩)
    · rcases e2 with rfl | rfl
      · exact .inr y1
      · exact .inr y2
  · exact st1.sub p (.inr y)
theorem lent_tup (g : Good B z1 H1 σ s1) (sa : z2.sa = z1.sa) (e : Ext (AmbAt z2) z2 H1 z3 H3) (sub : Sub z3 H3) : ∀ a xs, (∃ i, SlotAt σ s1.env i a) → ¬ Rd z3.F a (.tup xs) := by
  rintro a xs ⟨i, h⟩ r
  obtain ⟨_, ho, _, _, hp, ro, _⟩ := g.slotAt h
  have h3 : H3 a = some ho := lent_keep g sa e h hp
  rcases r with r | ⟨o, r⟩
  · have := sub _ _ r
    rw [h3] at this
    cases this
    cases ro
  · have := sub _ _ r
    rw [h3] at this
    cases this
    cases ro
end
def eFn (f : FnD) (ms : M (List Val)) : M Val := fun s => (ms s).bind fun vs s1 => match frzs s1 vs with
  | none => .bad
  | some (ds, s2) => match f ds s2.am with
    | .ret (.st d) am => .ok (.st d) ⟨if noRef d then s1.env else s2.env, am⟩
    | .ret (.ow d) am => .ok (.ow d) ⟨if noRefO d then s1.env else s2.env, am⟩
    | .ex e am => .ex e am
    | .bad => .bad
theorem frz_am {s s' : S} {v : Val} {d : Dt} (q : frz s v = some (d, s')) : s'.am = s.am := by
  cases v with
  | st d => cases q; rfl
  | ow d => cases q; rfl
  | sl i =>
    simp only [frz] at q
    split at q
    · cases q; rfl
    · cases q; rfl
    · cases q
theorem frzs_am : ∀ {vals : List Val} {s : S} {ds : List Dt} {s' : S}, frzs s vals = some (ds, s') → s'.am = s.am
  | [], _, _, _, e => by cases e; rfl
  | v :: vals, s, ds, s', e => by
    simp only [frzs] at e
    cases q : frz s v with
    | none => rw [q] at e; cases e
    | some x =>
      obtain ⟨d, s1⟩ := x
      rw [q] at e
      simp only at e
      cases q2 : frzs s1 vals with
      | none => rw [q2] at e; cases e
      | some x =>
        obtain ⟨ds', s2⟩ := x
        rw [q2] at e; cases e
        exact (frzs_am q2).trans (frz_am q)
def Many (n : Nat) (ms : M (List Val)) : Prop := ∀ s vals s1, ms s = .ok vals s1 → vals.length = n
theorem many_nil : Many 0 aNil := fun s vals s1 h => by cases h; rfl
theorem many_cons {n : Nat} {m : M Val} {ms : M (List Val)} (h : Many n ms) : Many (n + 1) (aCons m ms) := fun s vals s1 e => by
  unfold aCons at e
  cases q : m s with
  | bad => rw [q] at e; cases e
  | ex _ _ => rw [q] at e; cases e
  | ok v s2 =>
    rw [q] at e
    simp only [R.bind_ok] at e
    cases q2 : ms s2 with
    | bad => rw [q2] at e; cases e
    | ex _ _ => rw [q2] at e; cases e
    | ok vs s3 =>
      rw [q2] at e
      simp only [R.bind_ok] at e
      cases e
      simpa using h s2 vs _ q2
theorem sa_same {B : Bs} {σ : L2.St} {z1 z2 : Fz} {H1 H2 : Hp} {s1 s2 : S} (g1 : Good B z1 H1 σ s1) (g2 : Good B z2 H2 σ s2) (le : z1.le z2) (am : s2.am = s1.am) : z2.sa = z1.sa := by
  have a1 := g1.amb
  have a2 := g2.amb
  rw [am] at a2
  cases e : s1.am with
  | none => rw [e] at a1 a2; rw [show z2.sa = none from a2, show z1.sa = none from a1]
  | some r =>
    rw [e] at a1
    obtain ⟨a, c, e1, _⟩ := a1
    rw [e1, le.sa _ e1]
theorem rd_fn {B : Bs} {W : WX} {n : Nat} {f : FnD} {ms : M (List Val)} (hl : Many n ms) : ∀ σ H Q, rdE B W (eFn f ms) σ H Q → tCallS (spOf B n f) (WE W) (rdA B W ms) σ H Q := by
  rintro σ H Q ⟨z, s, g, h⟩
  refine ⟨z, s, g, ?_⟩
  cases q0 : ms s with
  | bad => unfold eFn at h; rw [q0] at h; exact h.elim
  | ex e am => unfold eFn at h; rw [q0] at h; exact h
  | ok vals s1 =>
    unfold eFn at h
    rw [q0] at h
    simp only [R.bind_ok] at h
    intro z1 H1 vs st1 v1
    have hn : vs.length = n := v1.length.trans (hl s vals s1 q0)
    cases q : frzs s1 vals with
    | none => rw [q] at h; exact h.elim
    | some x =>
      obtain ⟨ds, s2⟩ := x
      rw [q] at h
      simp only at h
      obtain ⟨z2, st2, r2, le2⟩ := frzs_ok st1 v1 q
      have sa := sa_same st1.good st2.good le2 (frzs_am q)
      refine ⟨hn, z2, ds, s2.am, st2.good.sub, r2, st2.good.amb, ?_⟩
      cases q3 : f ds s2.am with
      | bad => rw [q3] at h; exact h.elim
      | ex e am =>
        rw [q3] at h
        exact fun z3 H3 cls d e3 a3 x3 => h z3 H3 cls d (st2.ext.trans st2.sub (e3.mono fun p y => .inl y)) a3 x3
      | ret fv am =>
        rw [q3] at h
        cases fv with
        | st d =>
          simp only at h
          intro z3 H3 v e3 sub3 a3 r3
          cases q4 : noRef d with
          | true =>
            rw [q4] at h
            exact h _ H3 v (st1.lent st2 le2 sa e3 sub3 a3) ⟨r3.back (lent_tup st1.good sa e3 sub3) q4, fun _ _ e => by cases e⟩
          | false =>
            rw [q4] at h
            exact h z3 H3 v (st2.trans (.called st2.good e3 sub3 a3)) ⟨r3, fun _ _ e => by cases e⟩
        | ow d =>
          simp only at h
          intro z3 H3 p ho e3 sub3 a3 hp ro f0 h1 nA
          have h0 : H p = none := st1.ext.there p h1
          have nS : ∀ i, ¬ SlotAt σ s1.env i p := fun i y => by
            obtain ⟨_, _, _, _, hy, _, _⟩ := st1.good.slotAt y
            rw [h1] at hy; cases hy
          cases q4 : noRefO d with
          | true =>
            rw [q4] at h
            refine h _ H3 (.ref p) (st1.lent st2 le2 sa e3 sub3 a3) ⟨⟨p, ho, rfl, hp, ro.back (lent_tup st1.good sa e3 sub3) q4, ?_, fun y => ?_⟩, fun _ q _ e => by cases e; exact h0⟩
            · by_cases y : ∃ i, SlotAt σ s1.env i p
              · exact back_in y
              · rw [back_out y]; exact f0
            · rcases y with y | ⟨i, y⟩
              · exact nA y
              · exact nS i y
          | false =>
            rw [q4] at h
            refine h z3 H3 (.ref p) (st2.trans (.called st2.good e3 sub3 a3)) ⟨⟨p, ho, rfl, hp, ro, f0, fun y => ?_⟩, fun _ q _ e => by cases e; exact h0⟩
            rcases y with y | ⟨i, y⟩
            · exact nA y
            · obtain ⟨_, _, _, _, hy, _, _⟩ := st2.good.slotAt y
              rw [h1] at hy; cases hy
structure Cal (P : Program) (w : World) (K : PySem.W.Frag) (mg : Str → Option Value) (base : Heap) (k : Nat) (x : Str) (n : Nat) (g : FnD) : Prop where
  ex : ∃ f fd ps, ps.length = n ∧ FnG P w K mg base (L2.CX P w) k f fd ps (spOf ⟨K, mg⟩ n g) ∧ mg x = some (.ref f) ∧ PySem.W.keepIn K (.ref f) = true ∧ Binds K fd ps []
section
variable {X : Cx} {W : WX} {k n : Nat} {x : Str} {p pos : Pos} {e : Expr} {es : List Expr} {g : FnD} {ms : M (List Val)}
theorem e_fn (C : Cal X.prog X.w X.K X.mg X.base k x n g) (hgd : X.A.guards = some []) (hr : Room k X.A) (hg : Gl X x) (tk : Takes X W)
    (ha : PA X (e :: es) (rdA (bs X) W ms)) (hl : Many n ms) (hdb : (x == ("__debug__" : Str)) = false) (he : starEach (e :: es) X.env = (false, eval e X.env) :: starEach es X.env) (hpl : (backTo pos (starEach es X.env)).any (·.1) = false) :
    PE X (.Call (.Name x p) (e :: es) [] pos) (rdE (bs X) W (eFn g ms)) := by
  obtain ⟨f, fd, ps, _, F, hm, hk, hb⟩ := C.ex
  refine pe_weak (t := tCallS (spOf (bs X) n g) (WE W) (rdA (bs X) W ms)) ⟨fun pins s σ H Q I h => ?_⟩ (rd_fn hl)
  refine wpAny_Call_Name_kw (ld_glob I hg hm ?_ hdb)
  refine PySem.W.callWith_K (h₀ := X.base) I.ok.mod.kin hk (thn (ha.run pos pins s σ H _ I h) fun us s1 ⟨vs, H1, I1, r, q⟩ => ⟨I1.kIn, ?_⟩) he hpl
  exact run_fnG F hgd hr hb (passAt tk σ) I1 r q
theorem e_fn0 (C : Cal X.prog X.w X.K X.mg X.base k x 0 g) (hgd : X.A.guards = some []) (hr : Room k X.A) (hg : Gl X x) (tk : Takes X W)
    (hdb : (x == ("__debug__" : Str)) = false) : PE X (.Call (.Name x p) [] [] pos) (rdE (bs X) W (eFn g aNil)) := by
  obtain ⟨f, fd, ps, _, F, hm, hk, hb⟩ := C.ex
  refine ⟨fun pins s σ H Q I h => ?_⟩
  refine wpAny_Call_Name_kw (ld_glob I hg hm ?_ hdb)
  obtain ⟨z, s0, gd, h1⟩ := rd_fn (W := W) many_nil σ H Q h
  have h2 : spOf (bs X) 0 g [] H Q (WE W σ) := h1 z H [] (.refl gd) .nil
  exact PySem.W.callWith_K0 I.kIn hk (run_fnG (us := []) F hgd hr hb (passAt tk σ) I .nil h2)
end
end Rf

namespace Rf
open PySem PySem.Spec PyProof.Rows L2

section
variable {X : Cx}
def rSortedDI : List V → Hp → VK → Prop := fun xs H Q => ∃ (a : Addr) (kvs : List (Key × V)) (ks : List Int), xs = [.ref a] ∧ Rd H a (.dK kvs) ∧ kvs.map (·.1) = ks.map Sum.inl ∧
    ∀ (ys : List Int) (p : Addr), ys.Perm ks → ys.Pairwise (· ≤ ·) → H p = none → Q (.ref p) (upd H p (.lst (ys.map V.int)))
set_option maxHeartbeats 4000000 in
theorem cr_sortedDI (hcalm : X.calm = true) : CallR X (.builtin "sorted") rSortedDI := by
  intro pins s σ H xs us Q I r q
  obtain ⟨a, kvs, ks, ex, hd, hks, q⟩ := q
  subst ex
  obtain ⟨u, eu, rx⟩ := vals1 r
  subst eu
  cases rx
  obtain ⟨z, lo, vs, rel, dd⟩ := dk_rd I.hok hd
  obtain ⟨ep, hat⟩ := dd.dictAt
  have hkeys : vs.map (·.1) = ks.map Sum.inl := rel.keys.symm.trans hks
  have hl : vs.length = ks.length := by
    have e := congrArg List.length hkeys
    rw [List.length_map, List.length_map] at e
    exact e
  have h16 : vs.length ≤ sizeLine := by rw [← rel.length]; exact z
  refine Calls.call_function_entry PyProof.Rows.kind_sorted PyProof.Rows.plain_sorted PyProof.Rows.entry_sorted (PyProof.Rows.args_sorted1 _) ?_
  unfold Builtin.«sorted»
  refine wpAny_bind (m := checkCount "sorted" 1 1 _) (wpAny_pure ?_)
  refine wpAny_bind (PySem.W.kdu_collect (A := X.A.in1) (PySem.W.kdl_dict (knd := mixKind X.prog X.w) (kvs := vs) (ep := ep) lo) (I.ok.hd hcalm) hat h16 fun h' tk acc hk hacc => ?_)
  have hal : acc.toList.length = ks.length := by rw [Array.length_toList, hacc.1, hl]
  have hS : IntsAre acc.toList ks := ints_each hal fun j v e => by
    obtain ⟨k, x, e1, e2⟩ := hacc.2 j v (by rw [← Array.getElem?_toList]; exact e)
    have e3 : (vs.map (·.1))[j]? = some k := by rw [List.getElem?_map, e1]; rfl
    rw [hkeys, List.getElem?_map] at e3
    cases e4 : ks[j]? with
    | none => rw [e4] at e3; cases e3
    | some y =>
      rw [e4] at e3
      have e5 : Sum.inl y = k := Option.some.inj e3
      subst e5
      rcases keyIs_shape (show keyIs (Sum.inl y) v = true from e2) with ⟨i, t, ek, ev⟩ | ⟨z, t, ek, ev⟩
      · cases ek
        exact ⟨y, t, rfl, ev⟩
      · cases ek
  have I1 : Inv X pins σ H { s with heap := h', toks := tk } := I.kept hk
  have hz2 : acc.toList.length ≤ sizeLine := by rw [hal, ← hl]; exact h16
  refine wpAny_bind (wpAny_newList ?_ hz2)
  have hoL : (h'.push (seqObj "list" acc.toList.toArray 0)).get? h'.objs.size = some (seqObj "list" acc.toList.toArray 0) := Heap.get?_push_size _ rfl
  show wpAny _ _ _ _ _ { s with heap := h'.push (seqObj "list" acc.toList.toArray 0), toks := tk }
  refine wpAny_bind (wpAny_holding (wpAny_call_entry PyProof.Rows.slot_list_sort ⟨_, hoL, rfl⟩ PyProof.Rows.entry_list_sort
    (SrtO.list_sort_ord (s := { s with heap := h'.push (seqObj "list" acc.toList.toArray 0), toks := tk }) SrtO.swo_int hoL hz2 (fun h2 => SrtO.ints_sortable hS h2) fun out h1 h2 => ⟨_, rfl, ?_⟩) (PyProof.Rows.args_list_sort _)))
  obtain ⟨g1, g2, g3⟩ := SrtO.ints_out hS h1 h2
  obtain ⟨e', he'⟩ := PyProof.Rows.sortedHeap_at (vs := acc.toList) (out := out.toArray) hoL
  have hlen : ((out.map SrtO.iv).map V.int).length ≤ sizeLine := by
    rw [List.length_map, g2.length_eq, ← hl]
    exact h16
  refine wpAny_pure ⟨_, rfl, .ref h'.objs.size, upd H h'.objs.size (.lst ((out.map SrtO.iv).map V.int)), I1.laid (t' := tk) (fun b u e => ?_) (Nat.le_refl _)
    (show ObjOk X.prog X.w _ _ _ (.lst ((out.map SrtO.iv).map V.int)) from ⟨hlen, out, e', vals_of_ints g1, he'⟩), rfl, q _ _ g2 g3 (I1.hok.fresh (Nat.le_refl _))⟩
  have hb : b < h'.objs.size := Heap.lt_size e
  rw [PyProof.Rows.sortedHeap_old (Nat.ne_of_lt hb) (by rw [size_push']; exact Nat.lt_succ_of_lt hb)]
  exact Heap.get?_push_of_some _ e
end
def keysI : List (Dt × Dt) → Option (List Int)
  | [] => some []
  | (.int i, _) :: r => (keysI r).map (i :: ·)
  | _ => none
theorem KReps.keysI {B : Bs} {z : Fz} : ∀ {kvs : List (Key × V)} {ds : List (Dt × Dt)} {ks : List Int}, KReps B z kvs ds → Rf.keysI ds = some ks → kvs.map (·.1) = ks.map Sum.inl
  | _, _, _, .nil, e => by cases e; rfl
  | _, _, ks, .cons (k := k) r rs, e => by
    cases k with
    | inr x => cases e
    | inl i =>
      simp only [kD, Rf.keysI] at e
      cases q : Rf.keysI _ with
      | none => rw [q] at e; cases e
      | some js =>
        rw [q] at e; cases e
        simp only [List.map_cons, KReps.keysI rs q]
theorem Now.dct {B : Bs} {z : Fz} {H : Hp} {v : V} {kvs : List (Dt × Dt)} (g : Sub z H) (nf : keysI kvs ≠ none) (h : Now B z H v (.dict kvs)) : ∃ a xs, v = .ref a ∧ H a = some (.dK xs) ∧ KReps B z xs kvs := by
  rcases h with h | ⟨p, ho, e, hp, r⟩
  · cases h with
    | dic s r => exact ⟨_, _, rfl, g _ _ s, r⟩
    | fn e => exact absurd rfl nf
    | src e => exact absurd rfl nf
    | scr s r => exact absurd rfl nf
  · cases r with
    | dK r => exact ⟨p, _, e, hp, r⟩
def dSorted2 : List Dt → Option Val
  | [.dict kvs] => (keysI kvs).map fun ks => .ow (.list ((srtI ks).map PyData.int))
  | ds => dSorted ds
theorem fit_sorted2 {B : Bs} : CallFit B (fun xs H Q => rSortedI B.K xs H Q ∨ rSortedDI xs H Q) dSorted2 := by
  intro z H vs ds val Q sub hn hf hv
  unfold dSorted2 at hf
  split at hf
  · rename_i kvs
    cases q : keysI kvs with
    | none => rw [q] at hf; cases hf
    | some ks =>
      rw [q] at hf; cases hf
      obtain ⟨v, rfl, h1⟩ := nows_one hn
      obtain ⟨p, xs, rfl, h1, r1⟩ := h1.dct sub (by rw [q]; simp)
      refine .inr ⟨p, xs, ks, rfl, .inl h1, r1.keysI q, fun ys l pm so hl => ?_⟩
      have e : ys = srtI ks := sorted_unique (pm.trans (srtI_perm ks).symm) so (srtI_sorted ks)
      subst e
      exact hv.lst (Reps.of_ints _) l hl
  · exact .inl (fit_sorted z H vs ds val Q sub hn hf hv)
end Rf

namespace Rf
open PySem PySem.Spec PyProof.Rows L2

def eGet2 (mo mk md : M Val) : M Val := fun s => (mo s).bind fun vo s1 => match peek s1 vo with
  | some (.dict ds1) => if goodK ds1 then (mk s1).bind fun vk s2 => (md s2).bind fun vd s3 => match peek s3 vo, peek s3 vk with
    | some (.dict ds), some kd => match kOf kd with
      | some k => if goodK ds then (match dGet ds k with
        | some d => .ok (.st d) s3
        | none => match vd with
          | .sl _ => .bad
          | v => .ok v s3) else .bad
      | none => .bad
    | _, _ => .bad
    else .bad
  | _ => .bad
section
variable {X : Cx} {W : WX} {o e f : Expr} {apos cpos : Pos} {mo mk md : M Val}
theorem rd_get2 {B : Bs} : ∀ σ H Q, rdE B W (eGet2 mo mk md) σ H Q → tDGet2 (rdE B W mo) (rdE B W mk) (rdE B W md) σ H Q := by
  rintro σ H Q ⟨z, s, g, h⟩
  refine ⟨z, s, g, (RO.bind h).mono fun v H1 ⟨z1, s1, vo, st1, v1, h1⟩ => ?_⟩
  cases e1 : peek s1 vo with
  | none => rw [e1] at h1; exact h1.elim
  | some d1 =>
    rw [e1] at h1
    cases d1 with
    | dict ds1 =>
      simp only at h1
      split at h1
      · rename_i g1
        obtain ⟨a, kvs1, rfl, hH1, _⟩ := (peek_now st1.good v1 e1).dicK st1.good.sub g1
        refine ⟨a, rfl, .inl ⟨_, .inl hH1⟩, z1, s1, st1.good, (RO.bind h1).mono fun y H2 ⟨z2, s2, vk, st2, v2, h2⟩ => ?_⟩
        refine ⟨z2, s2, st2.good, (RO.bind' h2).mono fun x H3 ⟨z3, s3, vd, st3, v3, h3⟩ => ?_⟩
        cases e2 : peek s3 vo with
        | none => rw [e2] at h3; exact h3.elim
        | some d2 =>
          cases e3 : peek s3 vk with
          | none =>
            rw [e2, e3] at h3
            cases d2 <;> exact h3.elim
          | some kd =>
            rw [e2, e3] at h3
            cases d2 with
            | dict ds =>
              simp only at h3
              cases e4 : kOf kd with
              | none => rw [e4] at h3; exact h3.elim
              | some k =>
                rw [e4] at h3
                simp only at h3
                split at h3
                · rename_i g3
                  have n1 := (v1.step (st2.trans st3))
                  obtain ⟨a', kvs, ea, hH, r⟩ := (peek_now st3.good n1 e2).dicK st3.good.sub g3
                  cases ea
                  have ky := (peek_now st3.good (v2.step st3) e3).key e4
                  subst ky
                  refine ⟨valV kvs k, .k hH, ?_⟩
                  rcases r.get (k := k) with ⟨h5, h6⟩ | ⟨u, d, h5, h6, ru⟩
                  · rw [h6] at h3
                    rw [h5]
                    cases vd with
                    | sl i => exact h3.elim
                    | st d => exact h3 z3 H3 x st3 v3
                    | ow d => exact h3 z3 H3 x st3 v3
                  · rw [h6] at h3
                    rw [h5]
                    exact h3 z3 H3 u st3 ⟨ru, fun _ _ e => by cases e⟩
                · exact h3.elim
            | _ => exact h3.elim
      · exact h1.elim
    | _ => exact h1.elim
theorem e_get2 (hu : X.A.units + 1 < cLine) (ho : PE X o (rdE (bs X) W mo)) (he : PE X e (rdE (bs X) W mk)) (hf : PE X f (rdE (bs X) W md)) (m : M2 X o "get" apos e f cpos) : PE X (.Call (.Attribute o "get" apos) [e, f] [] cpos) (rdE (bs X) W (eGet2 mo mk md)) :=
  pe_weak (pe_dget2 hu ho he hf m) rd_get2
end

def flatD : Dt → Bool
  | .none => true
  | .bool _ => true
  | .int _ => true
  | .str _ => true
  | _ => false
def inD (a : Dt) (xs : List Dt) : Bool := xs.any fun y => PyData.eqv y a
def dInB : Dt → Dt → Option Bool
  | a, .list xs => if (flatD a && xs.all flatD) || (SeqAt.shaped a && SeqAt.shaped (.list xs)) then some (inD a xs) else none
  | a, .tuple xs => if flatD a && xs.all flatD then some (inD a xs) else none
  | a, .dict ds => match kOf a with
    | some k => if goodK ds then some (dGet ds k).isSome else none
    | none => none
  | _, _ => none
def dIn (a b : Dt) : Option Val := (dInB a b).map fun t => .st (.bool t)
def dNotIn (a b : Dt) : Option Val := (dInB a b).map fun t => .st (.bool (!t))
section
variable {B : Bs} {z : Fz} {H : Hp}
theorem Rep.flat {v : V} {d : Dt} (r : Rep B z v d) (h : flatD d = true) : flatV v = true := by cases r <;> first | rfl | cases h
theorem Rep.eqV {v w : V} {d e : Dt} (r : Rep B z v d) (r' : Rep B z w e) (h : flatD d = true) (h' : flatD e = true) : L2.eqV v w = PyData.eqv d e := by
  cases r <;> first | (cases h; done) | (cases r' <;> first | (cases h'; done) | simp [L2.eqV, PyData.eqv])
theorem Now.flat {v : V} {d : Dt} (r : Now B z H v d) (h : flatD d = true) : Rep B z v d := by
  rcases r with r | ⟨p, o, _, _, r⟩
  · exact r
  · cases r <;> cases h
theorem Reps.flat' : ∀ {vs : List V} {ds : List Dt}, Reps B z vs ds → ds.all flatD = true → vs.all flatV = true
  | _, _, .nil, _ => rfl
  | _, _, .cons r rs, h => by
    rw [List.all_cons, Bool.and_eq_true] at h ⊢
    exact ⟨r.flat h.1, Reps.flat' rs h.2⟩
theorem Reps.inV {v : V} {d : Dt} (r : Rep B z v d) (hd : flatD d = true) : ∀ {vs : List V} {ds : List Dt}, Reps B z vs ds → ds.all flatD = true → L2.inV v vs = inD d ds
  | _, _, .nil, _ => rfl
  | _, _, .cons q rs, h => by
    rw [List.all_cons, Bool.and_eq_true] at h
    unfold L2.inV inD
    rw [List.any_cons, List.any_cons, q.eqV r h.1 hd]
    have := Reps.inV r hd rs h.2
    unfold L2.inV inD at this
    rw [this]
end
def rInDc (neg : Bool) : R2 := fun y x H Q => ∃ a o, x = .ref a ∧ DGet H a y o ∧ Q (.bl (if neg then !o.isSome else o.isSome)) H
theorem op_inDc {X : Cx} (hu : X.A.units + 1 < cLine) : OpR X (compareOp .In) (rInDc false) := by
  intro pins s σ H y x v u Q I ry rx h
  obtain ⟨a, o, rfl, g, q⟩ := h
  obtain rfl : u = Value.ref a := rx
  exact d_in hu I g ry fun s3 I3 => ⟨.bl o.isSome, H, I3, rfl, q⟩
theorem op_notInDc {X : Cx} (hu : X.A.units + 1 < cLine) : OpR X (compareOp .NotIn) (rInDc true) := by
  intro pins s σ H y x v u Q I ry rx h
  obtain ⟨a, o, rfl, g, q⟩ := h
  obtain rfl : u = Value.ref a := rx
  exact d_notIn hu I g ry fun s3 I3 => ⟨.bl (!o.isSome), H, I3, rfl, q⟩
theorem op_inAll {X : Cx} (hu : X.A.units + 65 < cLine) : OpR X (compareOp .In) (fun x y H Q => rIn X.K false x y H Q ∨ L2.rInD X.K x y H Q ∨ rInDc false x y H Q) := op_in_seq.or ((L2.op_inD hu).or (op_inDc (by omega)))
theorem op_notInAll {X : Cx} (hu : X.A.units + 65 < cLine) : OpR X (compareOp .NotIn) (fun x y H Q => rIn X.K true x y H Q ∨ L2.rNotInD X.K x y H Q ∨ rInDc true x y H Q) := op_notIn_seq.or ((L2.op_notInD hu).or (op_notInDc (by omega)))
theorem fit_inG {B : Bs} {neg : Bool} {r : R2}
    (hr : ∀ x y H Q, rIn B.K neg x y H Q → r x y H Q) (hr2 : ∀ x y H Q, (∃ d ds, Dp B.K H x d ∧ Dp B.K H y (.list ds) ∧ SeqAt.shaped d = true ∧ SeqAt.shaped (.list ds) = true ∧ Q (.bl (if neg then !ds.any fun z => PyData.eqv z d else ds.any fun z => PyData.eqv z d)) H) → r x y H Q)
    (hr3 : ∀ x y H Q, rInDc neg x y H Q → r x y H Q) : OpFit B r (fun a b => (dInB a b).map fun t => .st (.bool (if neg then !t else t))) := by
  intro z H v w a b val Q sub ha hb h hv
  obtain ⟨t, e, rfl⟩ : ∃ t, dInB a b = some t ∧ val = .st (.bool (if neg then !t else t)) := by
    obtain ⟨t, h1, h2⟩ := Option.map_eq_some_iff.mp h
    exact ⟨t, h1, h2.symm⟩
  have qv := hv.bl
  cases b with
  | list xs =>
    simp only [dInB] at e
    split at e
    · rename_i hc
      cases e
      obtain ⟨p, vs, rfl, h1, r1⟩ := hb.lst sub
      by_cases hfl : (flatD a && xs.all flatD) = true
      · have hfl' := Bool.and_eq_true_iff.mp hfl
        have ra := ha.flat hfl'.1
        refine hr _ _ _ _ ⟨p, vs, rfl, .inl (.of h1), ra.flat hfl'.1, r1.flat' hfl'.2, ?_⟩
        rw [r1.inV ra hfl'.1 hfl'.2]
        exact qv
      · have hc' : (SeqAt.shaped a && SeqAt.shaped (.list xs)) = true := by
          rw [Bool.or_eq_true] at hc
          rcases hc with hc | hc
          · exact absurd hc hfl
          · exact hc
        have hs := Bool.and_eq_true_iff.mp hc'
        refine hr2 _ _ _ _ ⟨a, xs, ha.dp sub (shaped_nd hs.1), (show Now B z H (.ref p) (.list xs) from hb).dp sub (shaped_nd hs.2), hs.1, hs.2, qv⟩
    · cases e
  | tuple xs =>
    simp only [dInB] at e
    split at e
    · rename_i hc
      cases e
      obtain ⟨p, vs, rfl, h1, r1⟩ := hb.tup sub
      have hfl' := Bool.and_eq_true_iff.mp hc
      have ra := ha.flat hfl'.1
      refine hr _ _ _ _ ⟨p, vs, rfl, .inr h1, ra.flat hfl'.1, r1.flat' hfl'.2, ?_⟩
      rw [r1.inV ra hfl'.1 hfl'.2]
      exact qv
    · cases e
  | dict ds =>
    simp only [dInB] at e
    cases q : kOf a with
    | none => rw [q] at e; cases e
    | some k =>
      rw [q] at e
      simp only at e
      split at e
      · rename_i hg
        cases e
        obtain ⟨p, kvs, rfl, hH, rk⟩ := hb.dicK sub hg
        have ea := ha.key q
        subst ea
        refine hr3 _ _ _ _ ⟨p, _, rfl, .k hH, ?_⟩
        rcases rk.get (k := k) with ⟨h5, h6⟩ | ⟨u, d, h5, h6, _⟩
        · rw [h5]; rw [h6] at qv; exact qv
        · rw [h5]; rw [h6] at qv; exact qv
      · cases e
  | _ => cases e
theorem fit_in {B : Bs} : OpFit B (fun x y H Q => rIn B.K false x y H Q ∨ L2.rInD B.K x y H Q ∨ rInDc false x y H Q) dIn :=
  fit_inG (neg := false) (fun _ _ _ _ h => .inl h) (fun _ _ _ _ h => .inr (.inl h)) (fun _ _ _ _ h => .inr (.inr h))
theorem fit_notIn {B : Bs} : OpFit B (fun x y H Q => rIn B.K true x y H Q ∨ L2.rNotInD B.K x y H Q ∨ rInDc true x y H Q) dNotIn :=
  fit_inG (neg := true) (fun _ _ _ _ h => .inl h) (fun _ _ _ _ h => .inr (.inl h)) (fun _ _ _ _ h => .inr (.inr h))

def cutD (xs : List Dt) (lo hi : Option Int) : List Dt := (xs.drop (HT.sIx xs.length 0 lo)).take (HT.sIx xs.length xs.length hi - HT.sIx xs.length 0 lo)
theorem Reps.cut {B : Bs} {z : Fz} {vs : List V} {xs : List Dt} (r : Reps B z vs xs) (lo hi : Option Int) : Reps B z (cutV vs lo hi) (cutD xs lo hi) := by
  unfold cutV cutD
  rw [r.length]
  exact (r.drop _).take _
def dCut (lo hi : Option Int) : Dt → Option Val
  | .list xs => some (.ow (.list (cutD xs lo hi)))
  | .tuple xs => some (.st (.tuple (cutD xs lo hi)))
  | _ => none
def mPart : Option (M Val) → S → R (Option Int × S)
  | none, s => .ok (none, s) s
  | some m, s => match m s with
    | .ok v s1 => match peek s1 v with
      | some (.int i) => .ok (some i, s1) s1
      | _ => .bad
    | .ex e am => .ex e am
    | .bad => .bad
def rdO (B : Bs) (W : WX) : Option (M Val) → L2.TO
  | none => tNoPart
  | some m => tPart (rdE B W m)
def eSl (mo : M Val) (ml mh : Option (M Val)) : M Val := fun s => (mo s).bind fun vo s1 => (mPart ml s1).bind fun p1 s2 => (mPart mh s2).bind fun p2 s3 => match peek s3 vo with
  | some d => fin (dCut p1.1 p2.1 d) s3
  | none => .bad
section
variable {B : Bs} {W : WX} {σ : L2.St} {z z0 : Fz} {H H0 : Hp} {s s0 : S}
def ROP (B : Bs) (W : WX) (σ : L2.St) (z : Fz) (H : Hp) (s : S) (r : R (Option Int × S)) (Q : Option Int → Hp → Prop) : Prop := match r with
  | .ok p s' => ∀ z' H', Stp B σ z H s z' H' s' → Q p.1 H'
  | .ex e am => ROx B W σ z H s e am
  | .bad => False
theorem rdO_of {m : Option (M Val)} {Q : Option Int → Hp → Prop} (g : Good B z H σ s) (h : ROP B W σ z H s (mPart m s) Q) : rdO B W m σ H Q := by
  cases m with
  | none => exact h z H (.refl g)
  | some m =>
    refine ⟨z, s, g, ?_⟩
    show RO B W σ z H s (m s) _
    simp only [mPart] at h
    cases e : m s with
    | bad => rw [e] at h; exact h.elim
    | ex er am => rw [e] at h; exact h
    | ok v s1 =>
      rw [e] at h
      simp only at h
      intro z1 H1 u st1 v1
      cases q : peek s1 v with
      | none => rw [q] at h; exact h.elim
      | some d =>
        rw [q] at h
        cases d with
        | int i => exact ⟨i, (peek_now st1.good v1 q).int, h z1 H1 st1⟩
        | _ => exact h.elim
theorem ROP.bind {r : R (Option Int × S)} {f : Option Int × S → S → R Val} {Q : VK} (st : Stp B σ z0 H0 s0 z H s) (h : RO B W σ z0 H0 s0 (r.bind f) Q) :
    ROP B W σ z H s r (fun o H1 => ∃ z1 s1 p, p.1 = o ∧ Stp B σ z0 H0 s0 z1 H1 s1 ∧ Stp B σ z H s z1 H1 s1 ∧ RO B W σ z0 H0 s0 (f p s1) Q) := by
  cases r with
  | ok p s' => exact fun z' H' x => ⟨z', s', p, rfl, st.trans x, x, h⟩
  | ex e am => exact ROx.step st h
  | bad => exact h
theorem rd_sl {mo : M Val} {ml mh : Option (M Val)} : ∀ σ H Q, rdE B W (eSl mo ml mh) σ H Q → tSl (fun x lo hi H Q => rSlL B.K x lo hi H Q ∨ rSlF B.K x lo hi H Q) (rdE B W mo) (rdO B W ml) (rdO B W mh) σ H Q := by
  rintro σ H Q ⟨z, s, g, h⟩
  refine ⟨z, s, g, (RO.bind' h).mono fun v H1 ⟨z1, s1, vo, st1, v1, h1⟩ => ?_⟩
  refine rdO_of st1.good ?_
  have k1 := ROP.bind st1 h1
  cases e1 : mPart ml s1 with
  | bad => rw [e1] at k1; exact k1.elim
  | ex e am => rw [e1] at k1; exact k1
  | ok p1 s2 =>
    rw [e1] at k1
    intro z2 H2 st2
    obtain ⟨z2', s2', p1', ep, st02, st12, h2⟩ := k1 z2 H2 st2
    rw [← ep]
    refine rdO_of st12.good ?_
    have k2 := ROP.bind st02 h2
    cases e2 : mPart mh s2' with
    | bad => rw [e2] at k2; exact k2.elim
    | ex e am => rw [e2] at k2; exact k2
    | ok p2 s3 =>
      rw [e2] at k2
      intro z3 H3 st3
      obtain ⟨z3', s3', p2', ep2, st03, st23, h3⟩ := k2 z3 H3 st3
      rw [← ep2]
      cases e3 : peek s3' vo with
      | none => rw [e3] at h3; exact h3.elim
      | some d =>
        rw [e3] at h3
        obtain ⟨val, ev, hv⟩ := (h3.step st03).fin st03.good
        have n := peek_now st03.good (v1.step (st12.trans st23)) e3
        cases d with
        | list xs =>
          cases ev
          obtain ⟨a, vs, rfl, hH, r⟩ := n.lst st03.good.sub
          exact .inl ⟨a, vs, rfl, .of hH, hv.lst (r.cut _ _)⟩
        | tuple xs =>
          cases ev
          obtain ⟨a, vs, rfl, hH, r⟩ := n.tup st03.good.sub
          refine .inr ⟨a, vs, rfl, hH, fun ⟨h1, h2⟩ => hv.1 _ ?_, hv.2 _ _ rfl (r.cut _ _)⟩
          have e : cutD xs p1'.1 p2'.1 = xs := by
            unfold cutD
            rw [← r.length, h1, h2, List.drop_zero, Nat.sub_zero, r.length, List.take_length]
          rw [e]
          rcases n with n | ⟨_, _, _, _, n⟩
          · exact n
          · cases n
        | _ => cases ev
end
section
variable {X : Cx} {W : WX} {e a b : Expr} {mo ma mb : M Val} {pos p2 : Pos}
theorem sl_all {X : Cx} : SlR X (fun x lo hi H Q => rSlL X.K x lo hi H Q ∨ rSlF X.K x lo hi H Q) := SlR.or sl_list sl_tupF
theorem e_slLo (he : PE X e (rdE (bs X) W mo)) (ha : PE X a (rdE (bs X) W ma)) : PE X (.Subscript e (.Slice (some a) none none p2) pos) (rdE (bs X) W (eSl mo (some ma) none)) := pe_weak (pe_slice sl_all he (po_some ha) po_none) rd_sl
theorem e_slHi (he : PE X e (rdE (bs X) W mo)) (ha : PE X a (rdE (bs X) W ma)) : PE X (.Subscript e (.Slice none (some a) none p2) pos) (rdE (bs X) W (eSl mo none (some ma))) := pe_weak (pe_slice sl_all he po_none (po_some ha)) rd_sl
theorem e_slBoth (he : PE X e (rdE (bs X) W mo)) (ha : PE X a (rdE (bs X) W ma)) (hb : PE X b (rdE (bs X) W mb)) : PE X (.Subscript e (.Slice (some a) (some b) none p2) pos) (rdE (bs X) W (eSl mo (some ma) (some mb))) := pe_weak (pe_slice sl_all he (po_some ha) (po_some hb)) rd_sl
end
end Rf

namespace Rf
open PySem PySem.Spec PyProof.Rows L2

section
variable {B : Bs} {W : WX} {σ : L2.St} {z z' : Fz} {H H' : Hp} {s : S}
theorem Good.grow (g : Good B z H σ s) (kp : ∀ b o, H b = some o → H' b = some o) (le : z.le z') (sub : Sub z' H') (new : ∀ a o, z'.F a = some o → z.F a = some o ∨ H a = none) (sa : z'.sa = z.sa) : Good B z' H' σ s := by
  have f : ∀ {a u}, H a = some u → z.F a = none → z'.F a = none := fun {a u} h e => by
    cases q : z'.F a with
    | none => rfl
    | some o =>
      rcases new a o q with y | y
      · rw [e] at y; cases y
      · rw [h] at y; cases y
  refine ⟨g.len, sub, fun i x o e1 e2 => (g.slots i x o e1 e2).mono le fun p u _ _ h e => ⟨kp _ _ h, f h e⟩, g.apart, ?_, fun i p h ⟨a, c, e1, e2⟩ => g.ambS i p h ⟨a, c, by rw [← sa]; exact e1, e2⟩⟩
  have := g.amb
  cases e : s.am with
  | none => rw [e] at this; show z'.sa = none; rw [sa]; exact this
  | some r =>
    rw [e] at this
    obtain ⟨a, c, e', n, h1, h2, h3, h4⟩ := this
    exact ⟨a, c, by rw [sa]; exact e', n, kp _ _ h1, kp _ _ h2, f h1 h3, f h2 h4⟩
theorem Stp.grow (g : Good B z H σ s) (kp : ∀ b o, H b = some o → H' b = some o) (le : z.le z') (sub : Sub z' H') (new : ∀ a o, z'.F a = some o → z.F a = some o ∨ H a = none) (sa : z'.sa = z.sa) : Stp B σ z H s z' H' s := by
  refine ⟨⟨fun a o h _ => kp a o h, fun a h => ?_, le, fun a o h => (new a o h).imp_right .inr, fun a c h => .inl (by rw [← sa]; exact h)⟩, g.grow kp le sub new sa, fun p y => .inl ?_⟩
  · cases q : H a with
    | none => rfl
    | some o => rw [kp a o q] at h; cases h
  · rcases y with ⟨a, c, e1, e2⟩ | y
    · exact .inl ⟨a, c, by rw [← sa]; exact e1, e2⟩
    · exact .inr y
noncomputable def Fz.at (z : Fz) (H : Hp) (ts : List Addr) : Fz := ⟨fun a => @ite _ (a ∈ ts) (Classical.propDecidable _) (H a) (z.F a), z.sa⟩
theorem at_in {ts : List Addr} {a : Addr} (h : a ∈ ts) : (z.at H ts).F a = H a := if_pos h
theorem at_out {ts : List Addr} {a : Addr} (h : a ∉ ts) : (z.at H ts).F a = z.F a := if_neg h
end

def itemsD (kvs : List (Dt × Dt)) : List Dt := kvs.map fun kv => .tuple [kv.1, kv.2]
def eItems (m : M Val) : M Val := fun s => (m s).bind fun v s1 => match peek s1 v with
  | some (.dict kvs) => if goodK kvs then .ok (.ow (.list (itemsD kvs))) s1 else .bad
  | _ => .bad
theorem pairI_k (k : Key) (d : Dt) : [kD k, d].all pairI = false := by cases k <;> rfl
theorem reps_items {B : Bs} {z : Fz} {H' : Hp} : ∀ {ts : List Addr} {kvs : List (Key × V)} {ds : List (Dt × Dt)}, Paired (fun (t : Addr) (q : Key × V) => z.F t = some (.tup [kV q.1, q.2])) ts kvs → KReps B z kvs ds → Reps B z (ts.map V.ref) (itemsD ds)
  | _, _, _, .nil, .nil => .nil
  | _, _, _, .cons h t, .cons r rs => .cons (.tup (.inl (.inl h)) (.inr (pairI_k _ _)) (.cons (.kV _) (.cons r .nil))) (reps_items (H' := H') t rs)
theorem paired_imp {α β : Type} {F G : α → β → Prop} : ∀ {l : List α} {m : List β}, Paired F l m → (∀ a b, a ∈ l → F a b → G a b) → Paired G l m
  | _, _, .nil, _ => .nil
  | _, _, .cons r t, f => .cons (f _ _ List.mem_cons_self r) (paired_imp t fun a b h => f a b (List.mem_cons_of_mem _ h))
theorem rd_items {B : Bs} {W : WX} {m : M Val} : ∀ σ H Q, rdE B W (eItems m) σ H Q → LiI.tListItems (rdE B W m) σ H Q := by
  rintro σ H Q ⟨z, s, g, h⟩
  refine ⟨z, s, g, (RO.bind h).mono fun v H1 ⟨z1, s1, vo, st1, v1, h1⟩ => ?_⟩
  cases e1 : peek s1 vo with
  | none => rw [e1] at h1; exact h1.elim
  | some d =>
    rw [e1] at h1
    cases d with
    | dict ds =>
      simp only at h1
      split at h1
      · rename_i hg
        obtain ⟨a, kvs, rfl, hH, r⟩ := (peek_now st1.good v1 e1).dicK st1.good.sub hg
        refine ⟨a, kvs, rfl, hH, fun H' p ts kp hp hts hpts hL hP => ?_⟩
        have le : z1.le (z1.at H' ts) := ⟨fun b o hb => by
          by_cases q : b ∈ ts
          · rw [at_in q]; exact kp _ _ (st1.good.sub _ _ hb)
          · rw [at_out q]; exact hb, fun _ h => h⟩
        have sub : Sub (z1.at H' ts) H' := fun b o hb => by
          by_cases q : b ∈ ts
          · rw [at_in q] at hb; exact hb
          · rw [at_out q] at hb; exact kp _ _ (st1.good.sub _ _ hb)
        have st := Stp.grow (z' := z1.at H' ts) st1.good kp le sub (fun b o hb => by
          by_cases q : b ∈ ts
          · exact .inr (hts b q)
          · rw [at_out q] at hb; exact .inl hb) rfl
        have fp : z1.F p = none := by
          cases e : z1.F p with
          | none => rfl
          | some o => rw [st1.good.sub p o e] at hp; cases hp
        refine h1 (z1.at H' ts) H' (.ref p) st ⟨⟨p, _, rfl, hL, .lst (reps_items (H' := H') (paired_imp hP fun t q ht e => by rw [at_in ht]; exact e) (r.mono le)), by rw [at_out hpts]; exact fp, fun y => ?_⟩, fun _ q _ e => by cases e; exact hp⟩
        rcases y with ⟨a', c, e1, e2⟩ | y
        · exact st1.good.own_new hp (.inl ⟨a', c, e1, e2⟩)
        · exact st1.good.own_new hp (.inr y)
      · exact h1.elim
    | _ => exact h1.elim
theorem e_items {X : Cx} {W : WX} {e : Expr} {m : M Val} {p apos cpos pos : Pos} (hc : X.calm = true) (he : PE X e (rdE (bs X) W m)) (hg : Gl X "list") (hm : X.mg "list" = none) (hbase : attributeBase e "items" X.env (eval e X.env) = eval e X.env) (hline : (apos.endLine == cpos.line) = true)
    (hs : starEach [.Call (.Attribute e "items" apos) [] [] cpos] X.env = (false, eval (.Call (.Attribute e "items" apos) [] [] cpos) X.env) :: starEach [] X.env) :
    PE X (.Call (.Name "list" p) [.Call (.Attribute e "items" apos) [] [] cpos] [] pos) (rdE (bs X) W (eItems m)) := pe_weak (LiI.pe_listItems hc he hg hm boot_list hbase hline hs) rd_items

def pairD : Dt → Option (Dt × Dt)
  | .tuple [k, d] => if (kOf k).isSome then some (k, d) else none
  | _ => none
def pairsD : List Dt → Option (List (Dt × Dt))
  | [] => some []
  | d :: ds => match pairD d, pairsD ds with
    | some p, some ps => some (p :: ps)
    | _, _ => none
def mergeD (kvs : List (Dt × Dt)) (more : List (Dt × Dt)) : List (Dt × Dt) := more.foldl (fun acc kv => match kOf kv.1 with | some k => dPut acc k kv.2 | none => acc) kvs
theorem KReps.merge {B : Bs} {z : Fz} : ∀ {more : List (Key × V)} {ms : List (Dt × Dt)} {kvs : List (Key × V)} {ds : List (Dt × Dt)}, KReps B z more ms → KReps B z kvs ds → KReps B z (mergeK kvs more) (mergeD ds ms)
  | _, _, _, _, .nil, r => r
  | _, _, _, _, .cons (k := k) q qs, r => by
    unfold mergeK mergeD
    rw [List.foldl_cons, List.foldl_cons]
    have e := KReps.merge qs (KReps.put (k := k) q r)
    unfold mergeK mergeD at e
    simp only [kOf_kD]
    exact e
theorem pairsD_all : ∀ {ds : List Dt} {ps : List (Dt × Dt)}, pairsD ds = some ps → ds.all pairI = true
  | [], _, _ => rfl
  | d :: ds, ps, e => by
    simp only [pairsD] at e
    cases q1 : pairD d with
    | none => rw [q1] at e; cases e
    | some p =>
      cases q2 : pairsD ds with
      | none => rw [q1, q2] at e; cases e
      | some qs =>
        have hd : pairI d = true := by
          unfold pairD at q1
          split at q1
          · rename_i k d'
            split at q1
            · rename_i hk
              cases k <;> first | rfl | (simp [kOf] at hk)
            · cases q1
          · cases q1
        rw [List.all_cons, hd, pairsD_all q2, Bool.true_and]
theorem pairs_at {B : Bs} {z : Fz} : ∀ {vs : List V} {ds : List Dt} {ps : List (Dt × Dt)}, Reps B z vs ds → pairsD ds = some ps → ∃ (as : List Addr) (kvs : List (Key × V)), vs = as.map V.ref ∧ Paired (fun (p : Addr) (kv : Key × V) => SqT B.K z.F p [kV kv.1, kv.2]) as kvs ∧ KReps B z kvs ps
  | _, _, _, .nil, e => by cases e; exact ⟨[], [], rfl, .nil, .nil⟩
  | _, _, ps, .cons (v := v) (d := d) (ds := ds) r rs, e => by
    simp only [pairsD] at e
    cases q1 : pairD d with
    | none => rw [q1] at e; cases e
    | some p =>
      cases q2 : pairsD ds with
      | none => rw [q1, q2] at e; cases e
      | some ps' =>
        rw [q1, q2] at e
        cases e
        obtain ⟨as, kvs, rfl, h1, h2⟩ := pairs_at rs q2
        unfold pairD at q1
        split at q1
        · rename_i k d'
          split at q1
          · rename_i hk
            cases q1
            obtain ⟨key, hkey⟩ := Option.isSome_iff_exists.mp hk
            have ek := kOf_eq hkey
            subst ek
            obtain ⟨a, xs, rfl, ht, rx⟩ := r.tup_inv
            cases rx with
            | cons r1 rr =>
              cases rr with
              | cons r2 rr =>
                cases rr
                have e1 := (show Now B z (fun _ => none) _ (kD key) from .inl r1).key (kOf_kD key)
                subst e1
                exact ⟨a :: as, (key, _) :: kvs, rfl, .cons ht h1, .cons r2 h2⟩
          · cases q1
        · cases q1
def dDict : List Dt → Option Val
  | [.list ds] => (pairsD ds).map fun ps => .ow (.dict (mergeD [] ps))
  | [.dict kvs] => if goodK kvs then some (.ow (.dict kvs)) else none
  | [.tuple ds] => (pairsD ds).map fun ps => .ow (.dict (mergeD [] ps))
  | _ => none
def rDict (K : PySem.W.Frag) : List V → Hp → VK → Prop := fun xs H Q => (∃ (a : Addr) (ps : List Addr) (kvs : List (Key × V)), xs = [.ref a] ∧ SqL K H a (ps.map V.ref) ∧ Paired (fun p kv => SqT K H p [kV kv.1, kv.2]) ps kvs ∧
    ∀ p, H p = none → Q (.ref p) (upd H p (.dK (mergeK [] kvs)))) ∨ (∃ (a : Addr) (kvs : List (Key × V)), xs = [.ref a] ∧ Rd H a (.dK kvs) ∧ ∀ p, H p = none → Q (.ref p) (upd H p (.dK kvs))) ∨ rDictF K xs H Q
theorem cr_dict {X : Cx} (hc : X.calm = true) : CallR X (.type "dict") (rDict X.K) := CallR.or (call_dictP hc) (CallR.or call_dictD (call_dictF hc))
theorem fit_dict {B : Bs} : CallFit B (rDict B.K) dDict := by
  intro z H vs ds val Q sub hn hf hv
  unfold dDict at hf
  split at hf
  · rename_i a
    obtain ⟨ps, hp, rfl⟩ := Option.map_eq_some_iff.mp hf
    obtain ⟨v, rfl, h1⟩ := nows_one hn
    obtain ⟨p, xs, rfl, hH, r⟩ := h1.lst sub
    obtain ⟨as, kvs, rfl, h2, h3⟩ := pairs_at r hp
    exact .inl ⟨p, as, kvs, rfl, .of hH, paired_imp h2 fun a b _ h => sqT_mono sub h, fun q hq => hv q _ (.dK (KReps.merge h3 .nil)) hq⟩
  · rename_i kvs
    split at hf
    · rename_i hg
      cases hf
      obtain ⟨v, rfl, h1⟩ := nows_one hn
      obtain ⟨p, xs, rfl, hH, r⟩ := h1.dicK sub hg
      exact .inr (.inl ⟨p, xs, rfl, .inl hH, fun q hq => hv q _ (.dK r) hq⟩)
    · cases hf
  · rename_i a
    obtain ⟨ps, hp, rfl⟩ := Option.map_eq_some_iff.mp hf
    obtain ⟨v, rfl, h1⟩ := nows_one hn
    obtain ⟨p, xs, rfl, hH, pl, r⟩ := h1.tupP sub
    obtain ⟨as, kvs, rfl, h2, h3⟩ := pairs_at r hp
    rcases pl with pl | pl
    · exact .inr (.inr ⟨p, as, kvs, rfl, pl, paired_imp h2 fun a b _ h => sqT_mono sub h, fun q hq => hv q _ (.dK (KReps.merge h3 .nil)) hq⟩)
    · rw [pairsD_all hp] at pl
      cases pl
  · cases hf

def dRepr : List Dt → Option Val
  | [.int i] => if i.natAbs.log2 < 1920 then some (.st (.str (toString i))) else none
  | [.none] => some (.st (.str "None"))
  | [.bool b] => some (.st (.str (if b then "True" else "False")))
  | [.str x] => if (reprText x).length ≤ sizeLine then some (.st (.str (reprText x))) else none
  | [d] => if isDisplay d && d.showable && !d.hasDict && decide (d.depth ≤ 64) && decide (d.shown.length ≤ sizeLine) then some (.st (.str d.shown)) else none
  | _ => none
def rRepr (K : PySem.W.Frag) : List V → Hp → VK → Prop := fun xs H Q => (∃ i, xs = [.int i] ∧ i.natAbs.log2 < 1920 ∧ Q (.str (toString i)) H) ∨ (xs = [.non] ∧ Q (.str "None") H) ∨ (∃ b, xs = [.bl b] ∧ Q (.str (if b then "True" else "False")) H) ∨ (∃ x, xs = [.str x] ∧ (reprText x).length ≤ sizeLine ∧ Q (.str (reprText x)) H) ∨
  ∃ x d, xs = [x] ∧ Dp K H x d ∧ isDisplay d = true ∧ d.showable = true ∧ d.hasDict = false ∧ d.depth ≤ 64 ∧ d.shown.length ≤ sizeLine ∧ Q (.str d.shown) H
theorem cr_repr {X : Cx} (hgd : X.A.guards = some []) (hu : X.A.units + 65 < cLine) : CallR X (.builtin "repr") (rRepr X.K) := by
  intro pins s σ H xs us Q I r q
  rcases q with q | ⟨rfl, q⟩ | ⟨b, rfl, q⟩ | ⟨x, rfl, hl, q⟩ | q
  · exact SkE.call_repr_int pins s σ H xs us Q I r q
  · obtain ⟨u, rfl, rx⟩ := vals1 r
    cases rx
    exact PySem.P.repr_of_none ⟨.str "None", H, I.kept (h' := s.heap) (fun _ _ e => e), ⟨_, rfl⟩, q⟩
  · obtain ⟨u, rfl, rx⟩ := vals1 r
    cases rx
    exact PySem.P.repr_of_bool ⟨.str (if b then "True" else "False"), H, I.kept (h' := s.heap) (fun _ _ e => e), ⟨_, rfl⟩, q⟩
  · obtain ⟨u, rfl, rx⟩ := vals1 r
    obtain ⟨t, rfl⟩ := rx
    exact PySem.P.repr_of_str ⟨.str (reprText x), H, I.kept (h' := s.heap) (fun _ _ e => e), ⟨_, rfl⟩, q⟩ hl
  · obtain ⟨x, d, rfl, hd, h1, h2, h3, h4, h5, q⟩ := q
    obtain ⟨u, rfl, rx⟩ := vals1 r
    obtain ⟨as, r1⟩ := Dp.reads I d x u hd rx
    obtain ⟨a, rfl⟩ := isRef_of_reads r1 h1
    exact repr_of_reads' r1 h2 (PyData.noDict_hsm h3) hgd (by omega) (fun _ _ e => e) (fun h' u tk hk => ⟨.str d.shown, H, I.kept hk, ⟨_, rfl⟩, q⟩) h5
theorem fit_repr {B : Bs} : CallFit B (rRepr B.K) dRepr := by
  intro z H vs ds val Q sub hn hf hv
  unfold dRepr at hf
  split at hf
  · rename_i i
    split at hf
    · rename_i hi
      cases hf
      obtain ⟨v, rfl, h1⟩ := nows_one hn
      cases h1.int
      exact .inl ⟨i, rfl, hi, hv.str⟩
    · cases hf
  · cases hf
    obtain ⟨v, rfl, h1⟩ := nows_one hn
    have e : v = .non := by
      rcases h1 with h | ⟨_, _, _, _, h⟩
      · exact h.non_inv
      · cases h
    subst e
    exact .inr (.inl ⟨rfl, hv.str⟩)
  · rename_i b
    cases hf
    obtain ⟨v, rfl, h1⟩ := nows_one hn
    rw [h1.bl]
    exact .inr (.inr (.inl ⟨b, rfl, hv.str⟩))
  · rename_i x
    split at hf
    · rename_i hl
      cases hf
      obtain ⟨v, rfl, h1⟩ := nows_one hn
      rw [h1.str]
      exact .inr (.inr (.inr (.inl ⟨x, rfl, hl, hv.str⟩)))
    · cases hf
  · rename_i d _ _ _ _
    split at hf
    · rename_i hc
      cases hf
      obtain ⟨v, rfl, h1⟩ := nows_one hn
      simp only [Bool.and_eq_true, Bool.not_eq_true', decide_eq_true_eq] at hc
      obtain ⟨⟨⟨⟨c1, c2⟩, c3⟩, c4⟩, c5⟩ := hc
      exact .inr (.inr (.inr (.inr ⟨v, d, rfl, h1.dp sub c3, c1, c2, c3, c4, c5, hv.str⟩)))
    · cases hf
  · cases hf
end Rf

namespace Rf
open PySem PySem.Spec PyProof.Rows L2

theorem ROI.frzs {B : Bs} {W : WX} {σ : L2.St} {z z1 : Fz} {H H1 : Hp} {s s1 : S} {vs : List V} {vals : List Val} {f : List Dt → S → R (List Dt)} {Q : It → Hp → Prop} (st : Stp B σ z H s z1 H1 s1) (vk : VOks B σ H z1 H1 s1 vs vals)
    (h : ROI B W σ z H s (match frzs s1 vals with | some (ds, s2) => f ds s2 | none => .bad) Q) : ∃ ds z2 s2, Stp B σ z H s z2 H1 s2 ∧ Reps B z2 vs ds ∧ ROI B W σ z H s (f ds s2) Q := by
  cases q : Rf.frzs s1 vals with
  | none => rw [q] at h; exact h.elim
  | some x =>
    obtain ⟨ds, s2⟩ := x
    rw [q] at h
    obtain ⟨z2, st2, r, _⟩ := frzs_ok st vk q
    exact ⟨ds, z2, s2, st2, r, h⟩
def zipD (xs ys : List Dt) : List Dt := List.zipWith (fun a b => .tuple [a, b]) xs ys
def npD : Dt → Bool
  | .tuple ds => !ds.all pairI
  | _ => true
def iZip (ms : M (List Val)) : M (List Dt) := fun s => (ms s).bind fun vs s1 => match frzs s1 vs with
  | some (ds, s2) => (match ds with
    | [.list xs, .list ys] => if (zipD xs ys).all npD then .ok (zipD xs ys) s2 else .bad
    | [.tuple xs, .tuple ys] => if (zipD xs ys).all npD then .ok (zipD xs ys) s2 else .bad
    | _ => .bad)
  | none => .bad
theorem zipD_get {B : Bs} {z : Fz} {vs ws : List V} {xs ys : List Dt} {i : Nat} {d : Dt} (r1 : Reps B z vs xs) (r2 : Reps B z ws ys) (h : (zipD xs ys)[i]? = some d) :
    ∃ a b x y, d = .tuple [a, b] ∧ vs[i]? = some x ∧ ws[i]? = some y ∧ Rep B z x a ∧ Rep B z y b := by
  unfold zipD at h
  rw [List.getElem?_zipWith] at h
  cases e1 : xs[i]? with
  | none => rw [e1] at h; cases h
  | some a =>
    cases e2 : ys[i]? with
    | none => rw [e1, e2] at h; cases h
    | some b =>
      rw [e1, e2] at h
      obtain ⟨x, hx, rx⟩ := r1.getD e1
      obtain ⟨y, hy, ry⟩ := r2.getD e2
      cases h
      exact ⟨a, b, x, y, rfl, hx, hy, rx, ry⟩
theorem zipD_stop {xs ys : List Dt} {i : Nat} (h : (zipD xs ys).length ≤ i) : xs.length ≤ i ∨ ys.length ≤ i := by
  unfold zipD at h
  rw [List.length_zipWith] at h
  omega
theorem walks_zipL {B : Bs} {z : Fz} {a b : Addr} {vs ws : List V} {xs ys : List Dt} (h1 : z.F a = some (.lst vs)) (h2 : z.F b = some (.lst ws)) (r1 : Reps B z vs xs) (r2 : Reps B z ws ys) (np : (zipD xs ys).all npD = true) : Walks B z (Itz B.K a b) (zipD xs ys) := by
  intro z' i H le sub
  have g1 : SqL B.K H a vs := .of (sub _ _ (le.F _ _ h1))
  have g2 : SqL B.K H b ws := .of (sub _ _ (le.F _ _ h2))
  refine ⟨fun hi => ⟨vs, ws, g1, g2, by rw [r1.length, r2.length]; exact zipD_stop hi⟩, fun d hd => ?_⟩
  have np1 := List.all_eq_true.mp np d (List.mem_of_getElem? hd)
  obtain ⟨da, db, x, y, rfl, hx, hy, rx, ry⟩ := zipD_get r1 r2 hd
  have np2 : [da, db].all pairI = false := by
    have h := np1
    simp [npD] at h
    rcases h with h | h <;> simp [h]
  refine ⟨⟨vs, ws, x, y, g1, g2, hx, hy⟩, fun v H' ⟨T, x', y', ev, hT, eH, f1, f2⟩ => .inr ⟨T, [x', y'], _, ev, rfl, hT, eH, np2, ?_⟩⟩
  have e1 := f1 vs g1
  have e2 := f2 ws g2
  rw [hx] at e1; rw [hy] at e2
  cases e1; cases e2
  exact .cons (rx.mono le) (.cons (ry.mono le) .nil)
theorem walks_zipT {B : Bs} {z : Fz} {a b : Addr} {vs ws : List V} {xs ys : List Dt} (h1 : SqT B.K z.F a vs) (h2 : SqT B.K z.F b ws) (r1 : Reps B z vs xs) (r2 : Reps B z ws ys) (np : (zipD xs ys).all npD = true) : Walks B z (RZ.ItzT B.K a b) (zipD xs ys) := by
  intro z' i H le sub
  have g1 : SqT B.K H a vs := sqT_mono sub (sqT_mono le.F h1)
  have g2 : SqT B.K H b ws := sqT_mono sub (sqT_mono le.F h2)
  refine ⟨fun hi => ⟨vs, ws, g1, g2, by rw [r1.length, r2.length]; exact zipD_stop hi⟩, fun d hd => ?_⟩
  have np1 := List.all_eq_true.mp np d (List.mem_of_getElem? hd)
  obtain ⟨da, db, x, y, rfl, hx, hy, rx, ry⟩ := zipD_get r1 r2 hd
  have np2 : [da, db].all pairI = false := by
    have h := np1
    simp [npD] at h
    rcases h with h | h <;> simp [h]
  refine ⟨⟨vs, ws, x, y, g1, g2, hx, hy⟩, fun v H' ⟨T, x', y', ev, hT, eH, f1, f2⟩ => .inr ⟨T, [x', y'], _, ev, rfl, hT, eH, np2, ?_⟩⟩
  have e1 := f1 vs g1
  have e2 := f2 ws g2
  rw [hx] at e1; rw [hy] at e2
  cases e1; cases e2
  exact .cons (rx.mono le) (.cons (ry.mono le) .nil)
theorem reps_two {B : Bs} {z : Fz} {vs : List V} {a b : Dt} (h : Reps B z vs [a, b]) : ∃ v w, vs = [v, w] ∧ Rep B z v a ∧ Rep B z w b := by
  cases h with
  | cons h1 h2 =>
    cases h2 with
    | cons h2 h3 =>
      cases h3
      exact ⟨_, _, rfl, h1, h2⟩
section
variable {X : Cx} {W : WX} {e e2 : Expr} {ms : M (List Val)} {p pos tpos : Pos} {elts : List Expr} {kk : Nat}
theorem i_zip (hg : Gl X "zip") (hm : X.mg "zip" = none) (ha : PA X [e, e2] (rdA (bs X) W ms)) (hs : starEach [e, e2] X.env = (false, eval e X.env) :: starEach [e2] X.env) (hpl : (backTo pos (starEach [e2] X.env)).any (·.1) = false) :
    PI X (.Tuple elts kk tpos) (.Call (.Name "zip" p) [e, e2] [] pos) (rdI (bs X) W (iZip ms)) := by
  refine ⟨fun pins s σ H R I ⟨z, u, g, h⟩ => (RZ.pi_zipA hg hm ha hs hpl).run pins s σ H R I ⟨z, u, g, (ROL.bindI h).mono fun vs H1 ⟨z1, s1, vals, st1, v1, h1⟩ => ?_⟩⟩
  obtain ⟨ds, z2, s2, st2, r, h2⟩ := ROI.frzs st1 v1 h1
  split at h2
  · rename_i xs ys
    obtain ⟨v, w, rfl, r1, r2⟩ := reps_two r
    obtain ⟨a, vs, rfl, hF1, q1⟩ := r1.lst_inv
    obtain ⟨b, ws, rfl, hF2, q2⟩ := r2.lst_inv
    split at h2
    · rename_i np
      exact ⟨a, b, vs, ws, rfl, .inl ⟨.of (st2.good.sub _ _ hF1), .of (st2.good.sub _ _ hF2), h2 z2 H1 _ st2 (walks_zipL (B := bs X) hF1 hF2 q1 q2 np)⟩⟩
    · exact h2.elim
  · rename_i xs ys
    obtain ⟨v, w, rfl, r1, r2⟩ := reps_two r
    obtain ⟨a, vs, rfl, hF1, q1⟩ := r1.tup_inv
    obtain ⟨b, ws, rfl, hF2, q2⟩ := r2.tup_inv
    split at h2
    · rename_i np
      exact ⟨a, b, vs, ws, rfl, .inr ⟨sqT_mono st2.good.sub hF1, sqT_mono st2.good.sub hF2, h2 z2 H1 _ st2 (walks_zipT (B := bs X) hF1 hF2 q1 q2 np)⟩⟩
    · exact h2.elim
  · exact h2.elim
end

def downD (hi : Int) (n : Nat) : List Dt := (List.range n).map fun i => .int (hi - (i : Nat))
theorem walks_down {B : Bs} {z : Fz} {lo : Int} {n : Nat} : Walks B z (Itc lo (-1) n) (downD lo n) := by
  intro z' i H le sub
  have hl : (downD lo n).length = n := by simp [downD]
  refine ⟨fun hi => by rw [hl] at hi; exact hi, fun d hd => ?_⟩
  have hi : i < n := by rw [← hl]; exact (List.getElem?_eq_some_iff.mp hd).1
  have e : d = .int (lo - i) := by
    unfold downD at hd
    rw [List.getElem?_map, List.getElem?_range hi] at hd
    exact (Option.some.inj hd).symm
  refine ⟨hi, fun x H' y => .inl ⟨y.1, ?_⟩⟩
  rw [y.2, e]
  have : lo + (i : Nat) * (-1 : Int) = lo - i := by omega
  rw [this]
  exact .int _
noncomputable def iRange3 (ms : M (List Val)) : M (List Dt) := fun s => (ms s).bind fun vs s1 => match peeks s1 vs with
  | some [.int i, .int j, .int c] => if rgOk i ∧ rgOk j ∧ c = -1 then .ok (downD i (i - j).toNat) s1 else .bad
  | _ => .bad
theorem nows_three {B : Bs} {z : Fz} {H : Hp} {vs : List V} {a b c : Dt} (h : Nows B z H vs [a, b, c]) : ∃ v w u, vs = [v, w, u] ∧ Now B z H v a ∧ Now B z H w b ∧ Now B z H u c := by
  cases h with
  | cons h1 h2 =>
    obtain ⟨v, w, rfl, h2, h3⟩ := nows_two h2
    exact ⟨_, _, _, rfl, h1, h2, h3⟩
theorem i_range3 {X : Cx} {W : WX} {tg a b c : Expr} {ms : M (List Val)} {p pos : Pos} (hg : Gl X "range") (hm : X.mg "range" = none) (ha : PA X [a, b, c] (rdA (bs X) W ms))
    (hs : starEach [a, b, c] X.env = (false, eval a X.env) :: starEach [b, c] X.env) (hpl : (backTo pos (starEach [b, c] X.env)).any (·.1) = false) : PI X tg (.Call (.Name "range" p) [a, b, c] [] pos) (rdI (bs X) W (iRange3 ms)) := by
  refine ⟨fun pins s σ H R I ⟨z, u, g, h⟩ => (pi_range3 hg hm ha hs hpl).run pins s σ H R I ⟨z, u, g, (ROL.bindI h).mono fun vs H1 ⟨z1, s1, vals, st1, v1, h1⟩ => ?_⟩⟩
  cases q : Rf.peeks s1 vals with
  | none => rw [q] at h1; exact h1.elim
  | some ds =>
    rw [q] at h1
    split at h1
    · rename_i i j c heq
      cases heq
      split at h1
      · rename_i hc
        obtain ⟨h2, h3, rfl⟩ := hc
        obtain ⟨v, w, x, rfl, n1, n2, n3⟩ := nows_three (peeks_now st1.good v1 q)
        rw [n1.int, n2.int, n3.int]
        refine ⟨i, j, -1, (i - j).toNat, rfl, .neg h2.1 h2.2 h3.1 h3.2, h1 z1 H1 _ st1 walks_down⟩
      · exact h1.elim
    · exact h1.elim
end Rf

namespace Rf
open PySem PySem.Spec PyProof.Rows L2

section
variable {B : Bs} {W : WX} {σ : L2.St} {z z1 : Fz} {H H' : Hp} {s s1 : S}
theorem Stp.amb (g : Good B z H σ s) {a c : Addr} {src' : Src} (hz : z.sa = some (a, c)) (ac : a ≠ c) (ne : ∀ q, q ≠ a → q ≠ c → H' q = H q) (ha : H' a = some (.dK (srcKvs c src'))) (hc : H' c = some (.lst (src'.cells.map fun n => V.int (n : Nat)))) (hs : s.am ≠ none) :
    Stp B σ z H s z H' { s with am := some src' } := by
  have aa : AmbAt z a := ⟨a, c, hz, .inl rfl⟩
  have acc : AmbAt z c := ⟨a, c, hz, .inr rfl⟩
  have fA := (g.amb.addr aa).choose_spec.2
  have fC := (g.amb.addr acc).choose_spec.2
  have k : ∀ {q o}, H q = some o → ¬ AmbAt z q → H' q = some o := fun {q o} h n => by rw [ne q (fun e => n (e ▸ aa)) (fun e => n (e ▸ acc))]; exact h
  have kf : ∀ {q o}, z.F q = some o → ¬ AmbAt z q := fun {q o} h ⟨a', c', e1, e2⟩ => by
    rw [hz] at e1
    cases e1
    rcases e2 with rfl | rfl
    · rw [fA] at h; cases h
    · rw [fC] at h; cases h
  refine ⟨⟨fun q o h n => k h fun y => n (.inl y), fun q h => ?_, .refl _, fun _ _ h => .inl h, fun _ _ h => .inl h⟩, ⟨g.len, fun q o h => k (g.sub q o h) (kf h), fun i x o e1 e2 => (g.slots i x o e1 e2).mono (.refl _) fun p u e3 ⟨d, e4⟩ h f => ⟨k h (g.ambS i p ⟨d, by rw [← e4]; exact e1, by rw [← e3]; exact e2⟩), f⟩, g.apart, ⟨a, c, hz, ac, ha, hc, fA, fC⟩, g.ambS⟩, fun q y => .inl y⟩
  by_cases e1 : q = a
  · rw [e1, ha] at h; cases h
  · by_cases e2 : q = c
    · rw [e2, hc] at h; cases h
    · rw [ne q e1 e2] at h; exact h
theorem src_at (g : Good B z H σ s) {v : V} {src : Src} (h : Rep B z v srcD) (am : s.am = some src) : ∃ a c, v = .ref a ∧ z.sa = some (a, c) ∧ a ≠ c ∧ H a = some (.dK (srcKvs c src)) ∧ H c = some (.lst (src.cells.map fun n => V.int (n : Nat))) := by
  have ga := g.amb
  rw [am] at ga
  obtain ⟨a, c, e, n, h1, h2, _, _⟩ := ga
  cases h with
  | src e' =>
    rw [e] at e'
    cases e'
    exact ⟨a, c, rfl, e, n, h1, h2⟩
  | dic s r =>
    have hk := kvs_good r
    simp [goodK, kOf] at hk
end
def srcGet (src : Src) (k : Str) : Option Int :=
  if k = ("left" : Str) then some (src.left : Nat) else if k = ("mixed" : Str) then some (src.mixed : Nat) else if k = ("turn" : Str) then some (src.turn : Nat) else none
def srcPut (src : Src) (k : Str) (n : Nat) : Option Src :=
  if k = ("left" : Str) then some { src with left := n } else if k = ("mixed" : Str) then some { src with mixed := n } else if k = ("turn" : Str) then some { src with turn := n } else none
def isSrc : Val → Bool
  | .st (.dict [(.none, .none)]) => true
  | _ => false
theorem isSrc_eq {v : Val} (h : isSrc v = true) : v = .st srcD := by
  unfold isSrc at h
  split at h
  · rfl
  · cases h
theorem k_ne {a b : Str} (h : a ≠ b) : ¬ (Sum.inr a : Key) = Sum.inr b := fun e => h (Sum.inr.inj e)
theorem sLeft : ¬ ("cells" : Str) = ("left" : Str) := by decide
theorem sMixed : ¬ ("cells" : Str) = ("mixed" : Str) := by decide
theorem sTurn : ¬ ("cells" : Str) = ("turn" : Str) := by decide
theorem sLM : ¬ ("left" : Str) = ("mixed" : Str) := by decide
theorem sLT : ¬ ("left" : Str) = ("turn" : Str) := by decide
theorem sMT : ¬ ("mixed" : Str) = ("turn" : Str) := by decide
theorem srcGet_at {c : Addr} {src : Src} {k : Str} {i : Int} (h : srcGet src k = some i) : valV (srcKvs c src) (.inr k) = some (.int i) := by
  unfold srcGet at h
  unfold srcKvs kCells kLeft kMixed kTurn
  split at h
  · rename_i e
    subst e
    cases h
    rw [valV_neg (k_ne sLeft), valV_pos rfl]
  · split at h
    · rename_i _ e
      subst e
      cases h
      rw [valV_neg (k_ne sMixed), valV_neg (k_ne sLM), valV_pos rfl]
    · split at h
      · rename_i _ _ e
        subst e
        cases h
        rw [valV_neg (k_ne sTurn), valV_neg (k_ne sLT), valV_neg (k_ne sMT), valV_pos rfl]
      · cases h
theorem srcPut_at {c : Addr} {src src' : Src} {k : Str} {n : Nat} (h : srcPut src k n = some src') : putK (srcKvs c src) (.inr k) (.int (n : Nat)) = srcKvs c src' ∧ src'.cells = src.cells := by
  unfold srcPut at h
  unfold srcKvs kCells kLeft kMixed kTurn putK
  have e1 := sLeft; have e2 := sMixed; have e3 := sTurn; have e4 := sLM; have e5 := sLT; have e6 := sMT
  split at h
  · rename_i e
    subst e
    cases h
    refine ⟨?_, rfl⟩
    simp [e1, e2, e3, e4, e5, e6, Ne.symm e4, Ne.symm e5, Ne.symm e6]
  · split at h
    · rename_i _ e
      subst e
      cases h
      refine ⟨?_, rfl⟩
      simp [e1, e2, e3, e4, e5, e6, Ne.symm e4, Ne.symm e5, Ne.symm e6]
    · split at h
      · rename_i _ _ e
        subst e
        cases h
        refine ⟨?_, rfl⟩
        simp [e1, e2, e3, e4, e5, e6, Ne.symm e4, Ne.symm e5, Ne.symm e6]
      · cases h
def eSrcGet (k : Str) (mo : M Val) : M Val := fun s => (mo s).bind fun v s1 => if isSrc v then (match s1.am with
  | some src => (match srcGet src k with
    | some i => .ok (.st (.int i)) s1
    | none => .bad)
  | none => .bad) else .bad
def eSrcLen (mo : M Val) : M Val := fun s => (mo s).bind fun v s1 => if isSrc v then (match s1.am with
  | some src => .ok (.st (.int (src.cells.length : Nat))) s1
  | none => .bad) else .bad
def sSrcSet (k : Str) (mv mo : M Val) : M Flo := fun s => (mv s).bind fun vv s1 => (mo s1).bind fun v s2 => if isSrc v then (match s2.am, peek s2 vv with
  | some src, some (.int i) => if 0 ≤ i then (match srcPut src k i.toNat with
    | some src' => .ok .nx { s2 with am := some src' }
    | none => .bad) else .bad
  | _, _ => .bad) else .bad
def sSrcPop (mo mo2 : M Val) : M Flo := fun s => (mo2 s).bind fun v s1 => if isSrc v then (match s1.am with
  | some src => (match src.cells[src.cells.length - 1]? with
    | some n => (mo { s1 with am := some { src with cells := src.cells.dropLast } }).bind fun v2 s2 => if isSrc v2 then (match s2.am with
      | some src2 => .ok .nx { s2 with am := some { src2 with left := n } }
      | none => .bad) else .bad
    | none => .bad)
  | none => .bad) else .bad
section
variable {X : Cx} {W : WX} {o o2 e : Expr} {mo mo2 mv : M Val} {pos p1 p2 p3 p4 p5 : Pos} {j j2 : Nat}
theorem rd_srcGet {B : Bs} {k : Str} : ∀ σ H Q, rdE B W (eSrcGet k mo) σ H Q → tOp (fun x y H Q => ∃ a v, x = .ref a ∧ DGet H a y (some v) ∧ Q v H) (rdE B W mo) (tC (.str k)) σ H Q := by
  rintro σ H Q ⟨z, s, g, h⟩
  refine ⟨z, s, g, (RO.bind h).mono fun v H1 ⟨z1, s1, val, st1, v1, h1⟩ => ?_⟩
  split at h1
  · rename_i hs
    have e := isSrc_eq hs
    subst e
    cases e1 : s1.am with
    | none => rw [e1] at h1; exact h1.elim
    | some src =>
      rw [e1] at h1
      simp only at h1
      cases e2 : srcGet src k with
      | none => rw [e2] at h1; exact h1.elim
      | some i =>
        rw [e2] at h1
        obtain ⟨a, c, rfl, _, _, hH, _⟩ := src_at st1.good v1.1 e1
        refine ⟨a, .int i, rfl, ?_, h1.st st1.good (.int i)⟩
        rw [← srcGet_at (c := c) e2]
        exact .k (k := .inr k) hH
  · exact h1.elim
theorem e_srcGet {k : Str} (hu : X.A.units + 1 < cLine) (ho : PE X o (rdE (bs X) W mo)) (hs : PlainIx (.Constant (.str k) j p1)) : PE X (.Subscript o (.Constant (.str k) j p1) pos) (rdE (bs X) W (eSrcGet k mo)) :=
  pe_weak (pe_ix (ix_dict hu) ho pe_str hs) rd_srcGet
theorem rd_srcCells {B : Bs} {σ : L2.St} {H : Hp} {Q : VK} {z : Fz} {s : S} (g : Good B z H σ s)
    (h : RO B W σ z H s (mo s) fun v H1 => ∃ a c src, v = .ref a ∧ H1 a = some (.dK (srcKvs c src)) ∧ Q (.ref c) H1) :
    tOp (fun x y H Q => ∃ a v, x = .ref a ∧ DGet H a y (some v) ∧ Q v H) (rdE B W mo) (tC (.str "cells")) σ H Q := by
  refine ⟨z, s, g, h.mono fun v H1 ⟨a, c, src, e, hH, q⟩ => ⟨a, .ref c, e, ?_, q⟩⟩
  have e2 : valV (srcKvs c src) (.inr "cells") = some (.ref c) := valV_pos rfl
  rw [← e2]
  exact .k (k := .inr "cells") hH
theorem e_srcLen (hu : X.A.units + 1 < cLine) (hg : Gl X "len") (hm : X.mg "len" = none) (ho : PE X o (rdE (bs X) W mo)) (hs : PlainIx (.Constant (.str "cells") j p1))
    (he : starEach [.Subscript o (.Constant (.str "cells") j p1) p2] X.env = (false, eval (.Subscript o (.Constant (.str "cells") j p1) p2) X.env) :: starEach [] X.env) (hpl : (backTo pos (starEach [] X.env)).any (·.1) = false) :
    PE X (.Call (.Name "len" p3) [.Subscript o (.Constant (.str "cells") j p1) p2] [] pos) (rdE (bs X) W (eSrcLen mo)) := by
  refine pe_weak (pe_callB call_len hg hm boot_len (pa_cons (pe_ix (ix_dict hu) ho pe_str hs) pa_nil he) (by decide) (by decide) he hpl) fun σ H Q ⟨z, s, g, h⟩ => ?_
  refine rd_srcCells g ((RO.bind h).mono fun v H1 ⟨z1, s1, val, st1, v1, h1⟩ => ?_)
  split at h1
  · rename_i hs
    have e := isSrc_eq hs
    subst e
    cases e1 : s1.am with
    | none => rw [e1] at h1; exact h1.elim
    | some src =>
      rw [e1] at h1
      obtain ⟨a, c, rfl, _, _, hH, hC⟩ := src_at st1.good v1.1 e1
      exact ⟨a, c, src, rfl, hH, _, _, rfl, .inl ⟨_, .of hC, rfl⟩, by rw [List.length_map]; exact h1.st st1.good (.int _)⟩
  · exact h1.elim
theorem s_srcSet {k : Str} (hu : X.A.units + 1 < cLine) (hv : PE X e (rdE (bs X) W mv)) (ho : PE X o (rdE (bs X) W mo)) (hs : swapsWith e (some (.Subscript o (.Constant (.str k) j p1) p2)) pos.line X.env = pure false) :
    PS X (.Assign [.Subscript o (.Constant (.str k) j p1) p2] e pos) (rdS (bs X) W (sSrcSet k mv mo)) := by
  refine ps_weak (ps_dput hu ho pe_str hv hs) fun D σ H ⟨z, s, g, h⟩ => ?_
  refine ⟨z, s, g, (RO.bindS h).mono fun v H1 ⟨z1, s1, vv, st1, v1, h1⟩ => ?_⟩
  refine ⟨z1, s1, st1.good, (RO.bindS' st1 h1).mono fun x H2 ⟨z2, s2, val, st2, v2, h2⟩ => ?_⟩
  split at h2
  · rename_i hs
    have e := isSrc_eq hs
    subst e
    cases e1 : s2.am with
    | none => rw [e1] at h2; exact h2.elim
    | some src =>
      cases e3 : peek s2 vv with
      | none => rw [e1, e3] at h2; exact h2.elim
      | some dv =>
        rw [e1, e3] at h2
        cases dv with
        | int i =>
          simp only at h2
          split at h2
          · rename_i hi
            cases e2 : srcPut src k i.toNat with
            | none => rw [e2] at h2; exact h2.elim
            | some src' =>
              rw [e2] at h2
              obtain ⟨a, c, rfl, hz, ac, hH, hC⟩ := src_at st2.good v2.1 e1
              have ev : v = .int i := (peek_now st2.good (v1.step st2) e3).int
              subst ev
              obtain ⟨p1, p2⟩ := srcPut_at (c := c) e2
              refine ⟨a, upd H2 a (.dK (srcKvs c src')), rfl, ?_, ?_⟩
              · rw [← p1, show ((i.toNat : Nat) : Int) = i by omega]
                exact .k (k := .inr k) hH (by show 4 < sizeLine; rw [sizeLine_eq]; decide)
              · have st3 : Stp (bs X) σ z2 H2 s2 z2 (upd H2 a (.dK (srcKvs c src'))) { s2 with am := some src' } := .amb st2.good hz ac (fun q n1 _ => upd_ne n1) upd_same (by rw [upd_ne (Ne.symm ac), p2]; exact hC) (by rw [e1]; simp)
                exact h2 σ z2 _ ((st1.trans st2).trans st3).toS
          · exact h2.elim
        | _ => exact h2.elim
  · exact h2.elim
theorem s_srcPop (hu : X.A.units + 1 < cLine) (ho : PE X o (rdE (bs X) W mo)) (ho2 : PE X o2 (rdE (bs X) W mo2)) (hs1 : PlainIx (.Constant (.str "cells") j p1))
    (hbase : attributeBase (.Subscript o2 (.Constant (.str "cells") j p1) p2) "pop" X.env (eval (.Subscript o2 (.Constant (.str "cells") j p1) p2) X.env) = eval (.Subscript o2 (.Constant (.str "cells") j p1) p2) X.env) (hline : (p3.endLine == p4.line) = true)
    {ps : Pos} (hs' : swapsWith (.Call (.Attribute (.Subscript o2 (.Constant (.str "cells") j p1) p2) "pop" p3) [] [] p4) (some (.Subscript o (.Constant (.str "left") j2 p5) pos)) ps.line X.env = pure false) :
    PS X (.Assign [.Subscript o (.Constant (.str "left") j2 p5) pos] (.Call (.Attribute (.Subscript o2 (.Constant (.str "cells") j p1) p2) "pop" p3) [] [] p4) ps) (rdS (bs X) W (sSrcPop mo mo2)) := by
  refine ps_weak (ps_dput hu ho pe_str (pe_bm0 PySem.F.plainAttrs_list PySem.F.slot_list_pop PySem.F.type_list_pop mt_pop (pe_ix (ix_dict hu) ho2 pe_str hs1) hbase hline) hs') fun D σ H ⟨z, s, g, h⟩ => ?_
  refine rd_srcCells g ((RO.bindS h).mono fun v H1 ⟨z1, s1, val, st1, v1, h1⟩ => ?_)
  split at h1
  · rename_i hs
    have e := isSrc_eq hs
    subst e
    cases e1 : s1.am with
    | none => rw [e1] at h1; exact h1.elim
    | some src =>
      rw [e1] at h1
      simp only at h1
      cases e2 : src.cells[src.cells.length - 1]? with
      | none => rw [e2] at h1; exact h1.elim
      | some n =>
        rw [e2] at h1
        simp only at h1
        obtain ⟨a, c, rfl, hz, ac, hH, hC⟩ := src_at st1.good v1.1 e1
        refine ⟨a, c, src, rfl, hH, .inl ⟨rfl, _, .of hC⟩, c, _, .int (n : Nat), rfl, rfl, hC, by rw [List.length_map, List.getElem?_map, e2]; rfl, ?_⟩
        have st2 : Stp (bs X) σ z1 H1 s1 z1 (upd H1 c (.lst ((src.cells.map fun n => V.int (n : Nat)).dropLast))) { s1 with am := some { src with cells := src.cells.dropLast } } :=
          .amb st1.good hz ac (fun q _ n2 => upd_ne n2) (by rw [upd_ne ac]; exact hH) (by rw [upd_same, List.map_dropLast]) (by rw [e1]; simp)
        refine ⟨z1, _, st2.good, (RO.bindS' (st1.trans st2) h1).mono fun x H2 ⟨z3, s3, val2, st3, v3, h3⟩ => ?_⟩
        split at h3
        · rename_i hs2
          have e := isSrc_eq hs2
          subst e
          cases e3 : s3.am with
          | none => rw [e3] at h3; exact h3.elim
          | some src3 =>
            rw [e3] at h3
            obtain ⟨a', c', rfl, hz', ac', hH', hC'⟩ := src_at st3.good v3.1 e3
            obtain ⟨q1, q2⟩ := srcPut_at (c := c') (src := src3) (src' := { src3 with left := n }) (k := ("left" : Str)) (n := n) (by unfold srcPut; rw [if_pos rfl])
            refine ⟨a', upd H2 a' (.dK (srcKvs c' { src3 with left := n })), rfl, ?_, ?_⟩
            · rw [← q1]
              exact .k (k := .inr ("left" : Str)) hH' (by show 4 < sizeLine; rw [sizeLine_eq]; decide)
            · have st4 : Stp (bs X) σ z3 H2 s3 z3 (upd H2 a' (.dK (srcKvs c' { src3 with left := n }))) { s3 with am := some { src3 with left := n } } := .amb st3.good hz' ac' (fun q n1 _ => upd_ne n1) upd_same (by rw [upd_ne (Ne.symm ac')]; exact hC') (by rw [e3]; simp)
              exact h3 σ z3 _ (((st1.trans st2).trans st3).trans st4).toS
        · exact h3.elim
  · exact h1.elim
end
end Rf

namespace Rf
open PySem PySem.Spec PyProof.Rows L2

def iScr (m : M Val) : M (List Dt) := fun s => (m s).bind fun v s1 => match v with
  | .st (.dict [(.none, .list ds)]) => .ok ds s1
  | _ => .bad
theorem Rep.scr_inv {B : Bs} {z : Fz} {v : V} {ds : List Dt} (r : Rep B z v (.dict [(.none, .list ds)])) : ∃ a xs, v = .ref a ∧ SqL B.K z.F a xs ∧ Reps B z xs ds := by
  cases r with
  | dic s r =>
    have hk := kvs_good r
    simp [goodK, kOf] at hk
  | scr s r => exact ⟨_, _, rfl, s, r⟩
theorem walks_listQ {B : Bs} {z : Fz} {a : Addr} {xs : List V} {ds : List Dt} (h : SqL B.K z.F a xs) (r : Reps B z xs ds) : Walks B z (Itl B.K a) ds := by
  intro z' i H le sub
  have hH : SqL B.K H a xs := sqL_mono sub (sqL_mono le.F h)
  refine ⟨fun hi => ⟨xs, hH, by rw [r.length]; exact hi⟩, fun d hd => ?_⟩
  obtain ⟨v, hv, rv⟩ := r.getD hd
  exact ⟨⟨xs, v, hH, hv⟩, fun x H' y => .inl ⟨y.1, by have := y.2 xs hH; rw [hv] at this; cases this; exact rv.mono le⟩⟩
theorem i_scr {X : Cx} {W : WX} {tg l : Expr} {m : M Val} (hl : PE X l (rdE (bs X) W m)) : PI X tg l (rdI (bs X) W (iScr m)) := by
  refine ⟨fun pins s σ H R I ⟨z, u, g, h⟩ => (pi_seq hl).run pins s σ H R I ⟨z, u, g, (RO.bindI h).mono fun v H1 ⟨z1, s1, val, st1, v1, h1⟩ => ?_⟩⟩
  split at h1
  · rename_i ds
    obtain ⟨a, xs, e, hF, r⟩ := Rep.scr_inv v1.1
    exact .inl ⟨a, e, ⟨xs, sqL_mono st1.good.sub hF⟩, h1 z1 H1 _ st1 (walks_listQ (B := bs X) hF r)⟩
  · exact h1.elim

def eRev (m : M Val) : M Val := fun s => (m s).bind fun v s1 => match peek s1 v with
  | some (.list ds) => .ok (.ow (.list ds.reverse)) s1
  | _ => .bad
theorem e_rev {X : Cx} {W : WX} {e : Expr} {m : M Val} {k : Nat} {p1 p2 p3 pos : Pos} (he : PE X e (rdE (bs X) W m)) : PE X (.Subscript e (.Slice none none (some (.UnaryOp .USub (.Constant (.int 1) k p1) p2)) p3) pos) (rdE (bs X) W (eRev m)) := by
  refine pe_weak (pe_revL he) fun σ H Q ⟨z, s, g, h⟩ => ⟨z, s, g, (RO.bind h).mono fun v H1 ⟨z1, s1, val, st1, v1, h1⟩ => ?_⟩
  cases q : peek s1 val with
  | none => rw [q] at h1; exact h1.elim
  | some d =>
    rw [q] at h1
    cases d with
    | list ds =>
      obtain ⟨a, xs, rfl, hH, r⟩ := (peek_now st1.good v1 q).lst st1.good.sub
      exact ⟨a, xs, rfl, .of hH, fun p hp => h1.ow st1.good (.lst r.reverse) hp⟩
    | _ => exact h1.elim

def nats? : List Dt → Option (List Nat)
  | [] => some []
  | .int i :: r => if 0 ≤ i then (nats? r).map (i.toNat :: ·) else none
  | _ => none
theorem nats_eq : ∀ {ds : List Dt} {ns : List Nat}, nats? ds = some ns → ds = ns.map fun n => PyData.int (n : Nat)
  | [], _, e => by cases e; rfl
  | d :: ds, ns, e => by
    cases d with
    | int i =>
      simp only [nats?] at e
      split at e
      · rename_i hi
        obtain ⟨ms, h1, rfl⟩ := Option.map_eq_some_iff.mp e
        rw [nats_eq h1, List.map_cons, show ((i.toNat : Nat) : Int) = i by omega]
      · cases e
    | _ => cases e
theorem Reps.nats {B : Bs} {z : Fz} : ∀ {vs : List V} {ns : List Nat}, Reps B z vs (ns.map fun n => PyData.int (n : Nat)) → vs = ns.map fun n => V.int (n : Nat)
  | _, [], .nil => rfl
  | _, _ :: _, .cons r rs => by
    rw [r.int_inv, Reps.nats rs]
    rfl
def srcRetV : Val → Option Dt → Option Src → Option (List Nat × Nat)
  | .ow (.list cs), some (.int m), none => if 0 ≤ m then (nats? cs).map fun ns => (ns, m.toNat) else none
  | _, _, _ => none
theorem srcRetV_inv {vc : Val} {o : Option Dt} {am : Option Src} {ns : List Nat} {m : Nat} (h : srcRetV vc o am = some (ns, m)) : vc = .ow (.list (ns.map fun n => PyData.int (n : Nat))) ∧ o = some (.int (m : Nat)) ∧ am = none := by
  unfold srcRetV at h
  split at h
  · split at h
    · rename_i hm
      obtain ⟨ms, h1, h2⟩ := Option.map_eq_some_iff.mp h
      cases h2
      rw [nats_eq h1]
      refine ⟨rfl, ?_, rfl⟩
      congr 2
      omega
    · cases h
  · cases h
def sSrcRet (mc mm : M Val) : M Flo := fun s => (mc s).bind fun vc s1 => (mm s1).bind fun vm s2 => match srcRetV vc (peek s2 vm) s2.am with
  | some (ns, m) => .ok (.rt (.st srcD)) { s2 with am := some ⟨ns, 1, m, 0⟩ }
  | none => .bad
theorem mergeK_src {v1 v2 v3 v4 : V} : mergeK [] [(kCells, v1), (kLeft, v2), (kMixed, v3), (kTurn, v4)] = [(kCells, v1), (kLeft, v2), (kMixed, v3), (kTurn, v4)] := by
  have e1 := sLeft; have e2 := sMixed; have e3 := sTurn; have e4 := sLM; have e5 := sLT; have e6 := sMT
  simp [mergeK, putK, kCells, kLeft, kMixed, kTurn, e1, e2, e3, e4, e5, e6, Ne.symm e1, Ne.symm e2, Ne.symm e3, Ne.symm e4, Ne.symm e5, Ne.symm e6]
theorem s_srcRet {X : Cx} {W : WX} {ec em : Expr} {mc mm : M Val} {k1 k2 k3 k4 k5 k6 : Nat} {p1 p2 p3 p4 p5 p6 pd pos : Pos} (hc : PE X ec (rdE (bs X) W mc)) (hm : PE X em (rdE (bs X) W mm)) :
    PS X (.Return (some (.Dict [some (.Constant (.str "cells") k1 p1), some (.Constant (.str "left") k2 p2), some (.Constant (.str "mixed") k3 p3), some (.Constant (.str "turn") k4 p4)] [ec, .Constant (.int 1) k5 p5, em, .Constant (.int 0) k6 p6] pd)) pos) (rdS (bs X) W (sSrcRet mc mm)) := by
  refine ps_weak (ps_ret (pe_disp (pps_cons pe_str hc (pps_cons pe_str pe_int (pps_cons pe_str hm (pps_cons pe_str pe_int pps_nil)))) rfl rfl (by simp) (by simp))) fun D σ H ⟨z, s, g, h⟩ => ?_
  intro p hp
  have st0 : Stp (bs X) σ z H s z (upd H p (.dK [])) s := ⟨.laid hp, g.laid hp, fun q x => .inl x⟩
  refine ⟨z, s, st0.good, (RO.bindS' st0 h).mono fun v H1 ⟨z1, s1, vc, st1, v1, h1⟩ => ?_⟩
  refine ⟨z1, s1, st1.good, (RO.bindS' (st0.trans st1) h1).mono fun x H2 ⟨z2, s2, vm, st2, v2, h2⟩ => ?_⟩
  cases q : srcRetV vc (peek s2 vm) s2.am with
  | none => rw [q] at h2; exact h2.elim
  | some x =>
    obtain ⟨ns, m⟩ := x
    rw [q] at h2
    simp only at h2
    obtain ⟨rfl, e1, e2⟩ := srcRetV_inv q
    have ex : x = .int (m : Nat) := (peek_now st2.good v2 e1).int
    subst ex
    obtain ⟨c, ho, rfl, hC, ro, fC, nC⟩ := (v1.step st2).1
    have c0 : upd H p (.dK []) c = none := v1.2 _ c rfl rfl
    have cp : c ≠ p := fun e => by rw [e, upd_same] at c0; cases c0
    have c1 : H c = none := by rw [upd_ne cp] at c0; exact c0
    have st12 := st1.trans st2
    have hP : H2 p = some (.dK []) := st12.ext.keep p _ upd_same (g.own_new hp)
    have nP : ¬ Own σ s2.env z2 p := fun y => by
      rcases st12.sub p y with y | y
      · exact g.own_new hp y
      · rw [upd_same] at y; cases y
    have fP : z2.F p = none := by
      cases e : z2.F p with
      | none => rfl
      | some o =>
        rcases st12.ext.new p o e with y | y | y
        · rw [g.sub p o y] at hp; cases hp
        · exact absurd y (g.own_new hp)
        · rw [upd_same] at y; cases y
    have sa2 : z2.sa = none := by
      have := st2.good.amb
      rw [e2] at this; exact this
    have eho : ho = .lst (ns.map fun n => V.int (n : Nat)) := by
      cases ro with
      | lst r => rw [Reps.nats r]
    subst eho
    refine ⟨hP, [(kCells, .ref c), (kLeft, .int 1), (kMixed, .int (m : Nat)), (kTurn, .int 0)], rfl, by simp, ?_⟩
    rw [mergeK_src]
    have stA := st0.trans st12
    have gA := stA.good
    have kp : ∀ {q u}, H2 q = some u → q ≠ p → upd H2 p (.dK [(kCells, .ref c), (kLeft, .int 1), (kMixed, .int (m : Nat)), (kTurn, .int 0)]) q = some u := fun h n => by rw [upd_ne n]; exact h
    have le : z2.le ⟨z2.F, some (p, c)⟩ := ⟨fun _ _ h => h, fun q h => by rw [sa2] at h; cases h⟩
    refine h2 σ ⟨z2.F, some (p, c)⟩ _ (.ref p) ⟨⟨fun a o h1 n => ?_, fun a h1 => ?_, stA.ext.le.trans le, stA.ext.new, fun a c' h1 => ?_⟩, ⟨gA.len, fun a o h1 => ?_, fun i y o e3 e4 => (gA.slots i y o e3 e4).mono le fun a u e5 ⟨d, e6⟩ h f => ⟨kp h fun e => nP (.inr ⟨i, d, by rw [← e6]; exact e3, by rw [← e, ← e5]; exact e4⟩), f⟩, gA.apart, ?_, fun i a h1 y => ?_⟩, fun a y => ?_, rfl⟩ ⟨.src rfl, fun _ _ e => by cases e⟩
    · exact kp (stA.ext.keep a o h1 n) fun e => by rw [e, hp] at h1; cases h1
    · by_cases e : a = p
      · rw [e]; exact hp
      · rw [upd_ne e] at h1; exact stA.ext.there a h1
    · cases h1
      exact .inr ⟨hp, c1⟩
    · exact kp (gA.sub a o h1) fun e => by rw [e, fP] at h1; cases h1
    · refine ⟨p, c, rfl, Ne.symm cp, ?_, kp hC cp, fP, fC⟩
      rw [upd_same]
      simp [srcKvs]
    · obtain ⟨a', c', e5, e6⟩ := y
      cases e5
      rcases e6 with rfl | rfl
      · exact nP (.inr ⟨i, h1⟩)
      · exact nC (.inr ⟨i, h1⟩)
    · rcases y with ⟨a', c', e5, e6⟩ | y
      · cases e5
        rcases e6 with rfl | rfl
        · exact .inr hp
        · exact .inr c1
      · exact stA.sub a (.inr y)
end Rf

set_option maxHeartbeats 2000000
namespace Rf
open PySem PySem.Spec PyProof.Rows L2

theorem law_callG {P : Program} {w : World} {K : PySem.W.Frag} {mg mb : Str → Option Value} {CX : CXT} {k : Nat} {fa a : Addr} {fd : FuncData} {x : Str} {sp : Sp} {s₁ : Shared} {vs : List Value} {ns : List Int}
    (KX : K.In s₁.heap) (hns : s₁.heap.Ns mainGlobals mg) (hb : s₁.heap.Ns builtinsNs mb) (hbb : ∀ x : Str, x ≠ "__name__" → mb x = bootBuiltins x) (hlim : s₁.heap.NoLimit) (hg : s₁.gens = #[])
    (ha : s₁.heap.get? a = some { cls := .type "list", data := .seq vs.toArray }) (hi : IntsAre vs ns) (hl : ns.length ≤ sizeLine) (hr : Room k callerA)
    (F : ∀ base : Heap, K.In base → base.Ns mainGlobals mg → FnG P w K mg base CX k fa fd [x] sp) (hbind : ∀ (s : Shared) (u : Value), BindsTo s fd ⟨[u], []⟩ [(x, u)])
    (hsp : ∀ H : Hp, Only H → SqL K H a (ns.map V.int) → sp [.ref a] H (fun v _ => v = .bl true) fun _ _ _ => False)
    (hCX : ∀ H e s', CX [] H s₁ (fun _ _ _ => False) e s' → False) :
    codeAny (model P w) callerA (.call (.ref fa) ⟨[.ref a], []⟩) (fun r s' => r = .ok (.ret (.bool true)) ∧ OldK s₁.heap s'.heap ∧ s'.os = s₁.os ∧ AllBare s'.gens) s₁ := by
  have rv := vals_ints hi
  have lenV := hi.length
  have core : ∀ H : Hp, Only H → SqL K H a (ns.map V.int) → HOk P w H s₁.heap → (∀ b, H b ≠ none → b = a) → (H a ≠ none → K.lookup a = none) →
      codeAny (model P w) callerA (.call (.ref fa) ⟨[.ref a], []⟩) (fun r s' => r = .ok (.ret (.bool true)) ∧ OldK s₁.heap s'.heap ∧ s'.os = s₁.os ∧ AllBare s'.gens) s₁ := by
    intro H hO hS hok hA hK
    have base_of : ∀ {b : Addr} {o : Obj}, s₁.heap.get? b = some o → H b = none → (hidT s₁.heap H).get? b = some o := fun e n => hidT_get e n
    have noA : ∀ {b : Addr} {o : Obj} {es : Array DictEntry} {ep : Nat}, s₁.heap.get? b = some o → o.data = .dict es ep → H b = none := fun {b o es ep} e d => by
      cases q : H b with
      | none => rfl
      | some u =>
        have e' : b = a := hA b (by rw [q]; simp)
        subst e'
        rw [ha] at e; cases e
        have d' : Data.seq vs.toArray _ = Data.dict es ep := d
        cases d'
    have nsK : ∀ {b : Addr} {m : Str → Option Value}, s₁.heap.Ns b m → (hidT s₁.heap H).Ns b m := fun {b m} ⟨o, es, ep, e, d, r⟩ => ⟨o, es, ep, base_of e (noA e d), d, r⟩
    have hKb : K.In (hidT s₁.heap H) := fun b o e => base_of (KX b o e) (by
      cases q : H b with
      | none => rfl
      | some u =>
        have e' : b = a := hA b (by rw [q]; simp)
        subst e'
        rw [hK (by rw [q]; simp)] at e; cases e)
    have hM : Mod K mg (hidT s₁.heap H) := ⟨hKb, nsK hns, ⟨mb, nsK hb, hbb⟩, let ⟨mc, h1, h2⟩ := hlim; ⟨mc, nsK h1, h2⟩⟩
    have e0 : Env0 P w K mg (hidT s₁.heap H) callerA [] s₁ H := ⟨rfl, hM, fun b o e => of_hidT e, Nat.le_of_eq (hidT_size _ _), trivial, fun b hb => absurd (show b ∈ ([] : List Addr) from hb) (by simp), hok, .of_eq hg⟩
    refine codeAny_mono ((F _ hKb (nsK hns)).run callerA [] s₁ H ⟨[.ref a], []⟩ [.ref a] [.ref a] _ _ rfl hr e0 (hbind s₁ (.ref a)) (.cons rfl .nil) (hsp H hO hS)) fun r s' h => ?_
    cases r with
    | error e => exact (hCX H e s' h).elim
    | ok fl =>
      cases fl with
      | next => exact False.elim h
      | brk => exact False.elim h
      | cont => exact False.elim h
      | ret u =>
        obtain ⟨v, H', os, bare, un, hok', r', q⟩ := h
        have q' : v = .bl true := q
        subst q'
        obtain rfl : u = Value.bool true := r'
        refine ⟨rfl, OldK.of_keep fun b o e => ?_, os, bare⟩
        cases q : H b with
        | none => exact un.keep b o e q (by intro z; exact absurd (show b ∈ ([] : List Addr) from z) (by simp)) (by simp)
        | some u =>
          rcases hO b with z | ⟨ob, xs, z⟩
          · rw [q] at z; cases z
          · have z2 := un.frzs b ob _ z
            obtain ⟨e1, _⟩ := hok b _ z
            obtain ⟨e2, _⟩ := hok' b _ z2
            rw [e] at e1; cases e1
            exact e2
  cases hk : K.lookup a with
  | some o =>
    have e := KX a o hk
    rw [ha] at e
    cases e
    refine core (fun _ => none) (fun _ => .inl rfl) (.inr ⟨_, vs.toArray, _, hk, rfl, rfl, rfl, by rw [List.size_toArray, lenV]; exact hl, by simpa using rv⟩) (fun b u z => by have z' : (none : Option HO) = some u := z; cases z') (fun b z => absurd rfl z) fun z => absurd rfl z
  | none =>
    refine core (fun b => if b = a then some (.frz { cls := .type "list", data := .seq vs.toArray } (.lst (ns.map V.int))) else none) (fun b => ?_) (.inl (.inr ⟨{ cls := .type "list", data := .seq vs.toArray }, if_pos rfl⟩)) (fun b u z => ?_) (fun b z => ?_) fun _ => hk
    · by_cases hb : b = a
      · exact .inr ⟨_, _, if_pos hb⟩
      · exact .inl (if_neg hb)
    · by_cases hb : b = a
      · have z' := (if_pos hb).symm.trans z
        cases z'
        subst hb
        exact ⟨ha, by rw [List.length_map]; exact hl, vs, _, rv, ha⟩
      · have z' := (if_neg hb).symm.trans z
        cases z'
    · by_cases hb : b = a
      · exact hb
      · exact absurd (if_neg hb) z

theorem walk_G {l : PySem.W.OpenLaw} {n k : Nat} {q : Program} {loose : List Str} {XP : (Str → Option Value) → Heap → Prop} {YP : World → Heap → Prop} {d : DefRec} {x : Str}
    (hn : l.most = some n) (hn2 : n ≤ sizeLine) (hdf : d.params.defaults = []) (hr : Room k callerA) {f : FnD}
    (F : ∀ (w : World) (mg : Str → Option Value) (fa : Addr) (h : Heap), YP w h → h.Ns mainGlobals mg → mg d.name = some (.ref fa) →
      ∃ (K : PySem.W.Frag) (fd : FuncData), K.In h ∧ (∀ (s : Shared) (u : Value), BindsTo s fd ⟨[u], []⟩ [(x, u)]) ∧
        ∀ base : Heap, K.In base → base.Ns mainGlobals mg → FnG l.prog w K mg base (L2.CX l.prog w) k fa fd [x] (spOf ⟨K, mg⟩ 1 f))
    (hf : ∀ ns : List Int, ns.length ≤ n → ∃ am, f [scrD (ns.map PyData.int)] none = .ret (.st (.bool true)) am) :
    PySem.W.WalkO q loose XP YP l.row.toRowW d [] (fun f vs => PySem.call f vs) := by
  refine Att.attach_call hn hdf fun w s₀ s₁ mg mb fa o pm cd doc a vs ns G Y ho hd hcd hmg hobj hints hlen hg => ?_
  obtain ⟨K, fd, KX, hb, hF⟩ := F w mg fa _ Y G.T.g hmg
  refine law_callG KX G.T.g G.T.b G.T.builtins G.T.nolimit hg hobj hints (Nat.le_trans hlen hn2) hr hF hb (fun H hO hS => ?_) fun H e s' h => ?_
  · obtain ⟨am, e⟩ := hf ns hlen
    refine ⟨rfl, ⟨H, none⟩, [scrD (ns.map PyData.int)], none, fun _ _ h => h, .cons (.scr hS (Reps.of_ints ns)) .nil, rfl, ?_⟩
    rw [e]
    intro z' H' v _ _ _ r
    exact r.bl_inv
  · obtain ⟨_, _, _, _, _, _, _, _, _, _, _, _, z⟩ := h
    exact z
end Rf

namespace Rf
open PySem PySem.Spec PyProof.Rows L2

section
variable {X : Cx} {W : WX} {k : Nat} {a b e e2 o f : Expr} {es : List Expr} {pos p apos cpos : Pos} {ma mb m mo : M Val} {ms : M (List Val)} {x : Str}
theorem room_u {A : Around} (r : Room k A) : A.units + 100 < cLine := by have := r.un; omega
theorem g_add (ha : PE X a (rdE (bs X) W ma)) (hb : PE X b (rdE (bs X) W mb)) : PE X (.BinOp a .Add b pos) (rdE (bs X) W (eBin dAdd ma mb)) := e_bin op_addAll fit_add ha hb
theorem g_sub (ha : PE X a (rdE (bs X) W ma)) (hb : PE X b (rdE (bs X) W mb)) : PE X (.BinOp a .Sub b pos) (rdE (bs X) W (eBin dSub ma mb)) := e_bin op_sub fit_sub ha hb
theorem g_mul (ha : PE X a (rdE (bs X) W ma)) (hb : PE X b (rdE (bs X) W mb)) : PE X (.BinOp a .Mult b pos) (rdE (bs X) W (eBin dMul ma mb)) := e_bin op_mulA fit_mul ha hb
theorem g_div (ha : PE X a (rdE (bs X) W ma)) (hb : PE X b (rdE (bs X) W mb)) : PE X (.BinOp a .FloorDiv b pos) (rdE (bs X) W (eBin dDiv ma mb)) := e_bin op_divA fit_div ha hb
theorem g_mod (ha : PE X a (rdE (bs X) W ma)) (hb : PE X b (rdE (bs X) W mb)) : PE X (.BinOp a .Mod b pos) (rdE (bs X) W (eBin dMod ma mb)) := e_bin op_mod fit_mod ha hb
theorem g_pow (ha : PE X a (rdE (bs X) W ma)) (hb : PE X b (rdE (bs X) W mb)) : PE X (.BinOp a .Pow b pos) (rdE (bs X) W (eBin dPow ma mb)) := e_bin op_pow fit_pow ha hb
theorem g_eq (hr : Room k X.A) (ha : PE X a (rdE (bs X) W ma)) (hb : PE X b (rdE (bs X) W mb)) : PE X (.Compare a [.Eq] [b] pos) (rdE (bs X) W (eBin dEq ma mb)) := e_cmp (op_eqA (by have := room_u hr; omega)) fit_eq (nomark _) ha hb
theorem g_ne (hr : Room k X.A) (ha : PE X a (rdE (bs X) W ma)) (hb : PE X b (rdE (bs X) W mb)) : PE X (.Compare a [.NotEq] [b] pos) (rdE (bs X) W (eBin dNe ma mb)) := e_cmp (op_neA (by have := room_u hr; omega)) fit_ne (nomark _) ha hb
theorem g_lt (ha : PE X a (rdE (bs X) W ma)) (hb : PE X b (rdE (bs X) W mb)) : PE X (.Compare a [.Lt] [b] pos) (rdE (bs X) W (eBin dLt ma mb)) := e_cmp op_lt fit_lt (nomark _) ha hb
theorem g_le (ha : PE X a (rdE (bs X) W ma)) (hb : PE X b (rdE (bs X) W mb)) : PE X (.Compare a [.LtE] [b] pos) (rdE (bs X) W (eBin dLe ma mb)) := e_cmp op_le fit_le (nomark _) ha hb
theorem g_gt (ha : PE X a (rdE (bs X) W ma)) (hb : PE X b (rdE (bs X) W mb)) : PE X (.Compare a [.Gt] [b] pos) (rdE (bs X) W (eBin dGt ma mb)) := e_cmp op_gt fit_gt (nomark _) ha hb
theorem g_ge (ha : PE X a (rdE (bs X) W ma)) (hb : PE X b (rdE (bs X) W mb)) : PE X (.Compare a [.GtE] [b] pos) (rdE (bs X) W (eBin dGe ma mb)) := e_cmp op_ge fit_ge (nomark _) ha hb
theorem g_is (ha : PE X a (rdE (bs X) W ma)) (hb : PE X b (rdE (bs X) W mb)) : PE X (.Compare a [.Is] [b] pos) (rdE (bs X) W (eBin dIs ma mb)) := e_cmp op_isN fit_is (nomark _) ha hb
theorem g_isnot (ha : PE X a (rdE (bs X) W ma)) (hb : PE X b (rdE (bs X) W mb)) : PE X (.Compare a [.IsNot] [b] pos) (rdE (bs X) W (eBin dIsNot ma mb)) := e_cmp op_notN fit_isnot (nomark _) ha hb
theorem g_in (hr : Room k X.A) (hm : behindInMarks .In b = false) (ha : PE X a (rdE (bs X) W ma)) (hb : PE X b (rdE (bs X) W mb)) : PE X (.Compare a [.In] [b] pos) (rdE (bs X) W (eBin dIn ma mb)) := e_cmp (op_inAll (by have := room_u hr; omega)) fit_in hm ha hb
theorem g_notin (hr : Room k X.A) (hm : behindInMarks .NotIn b = false) (ha : PE X a (rdE (bs X) W ma)) (hb : PE X b (rdE (bs X) W mb)) : PE X (.Compare a [.NotIn] [b] pos) (rdE (bs X) W (eBin dNotIn ma mb)) := e_cmp (op_notInAll (by have := room_u hr; omega)) fit_notIn hm ha hb
theorem h_eq (hr : Room k X.A) (ha : PE X a (rdE (bs X) W ma)) (hb : PE X b (rdE (bs X) W mb)) : PT X (.Compare a [.Eq] [b] pos) (rdB (bs X) W (tst (eBin dEq ma mb))) := b_cmp (op_eqA (by have := room_u hr; omega)) fit_eq (nomark _) ha hb
theorem h_ne (hr : Room k X.A) (ha : PE X a (rdE (bs X) W ma)) (hb : PE X b (rdE (bs X) W mb)) : PT X (.Compare a [.NotEq] [b] pos) (rdB (bs X) W (tst (eBin dNe ma mb))) := b_cmp (op_neA (by have := room_u hr; omega)) fit_ne (nomark _) ha hb
theorem h_lt (ha : PE X a (rdE (bs X) W ma)) (hb : PE X b (rdE (bs X) W mb)) : PT X (.Compare a [.Lt] [b] pos) (rdB (bs X) W (tst (eBin dLt ma mb))) := b_cmp op_lt fit_lt (nomark _) ha hb
theorem h_le (ha : PE X a (rdE (bs X) W ma)) (hb : PE X b (rdE (bs X) W mb)) : PT X (.Compare a [.LtE] [b] pos) (rdB (bs X) W (tst (eBin dLe ma mb))) := b_cmp op_le fit_le (nomark _) ha hb
theorem h_gt (ha : PE X a (rdE (bs X) W ma)) (hb : PE X b (rdE (bs X) W mb)) : PT X (.Compare a [.Gt] [b] pos) (rdB (bs X) W (tst (eBin dGt ma mb))) := b_cmp op_gt fit_gt (nomark _) ha hb
theorem h_ge (ha : PE X a (rdE (bs X) W ma)) (hb : PE X b (rdE (bs X) W mb)) : PT X (.Compare a [.GtE] [b] pos) (rdB (bs X) W (tst (eBin dGe ma mb))) := b_cmp op_ge fit_ge (nomark _) ha hb
theorem h_is (ha : PE X a (rdE (bs X) W ma)) (hb : PE X b (rdE (bs X) W mb)) : PT X (.Compare a [.Is] [b] pos) (rdB (bs X) W (tst (eBin dIs ma mb))) := b_cmp op_isN fit_is (nomark _) ha hb
theorem h_isnot (ha : PE X a (rdE (bs X) W ma)) (hb : PE X b (rdE (bs X) W mb)) : PT X (.Compare a [.IsNot] [b] pos) (rdB (bs X) W (tst (eBin dIsNot ma mb))) := b_cmp op_notN fit_isnot (nomark _) ha hb
theorem h_in (hr : Room k X.A) (hm : behindInMarks .In b = false) (ha : PE X a (rdE (bs X) W ma)) (hb : PE X b (rdE (bs X) W mb)) : PT X (.Compare a [.In] [b] pos) (rdB (bs X) W (tst (eBin dIn ma mb))) := b_cmp (op_inAll (by have := room_u hr; omega)) fit_in hm ha hb
theorem h_notin (hr : Room k X.A) (hm : behindInMarks .NotIn b = false) (ha : PE X a (rdE (bs X) W ma)) (hb : PE X b (rdE (bs X) W mb)) : PT X (.Compare a [.NotIn] [b] pos) (rdB (bs X) W (tst (eBin dNotIn ma mb))) := b_cmp (op_notInAll (by have := room_u hr; omega)) fit_notIn hm ha hb
theorem h_and1 {t : TT} (ha : PT X a t) : PW X (.BoolOp .And [a] pos) t := pw_and1 ha
theorem h_or1 {t : TT} (ha : PT X a t) : PW X (.BoolOp .Or [a] pos) t := pw_or1 ha
theorem g_ix (hr : Room k X.A) (ha : PE X a (rdE (bs X) W ma)) (hb : PE X b (rdE (bs X) W mb)) (hs : PlainIx b) : PE X (.Subscript a b pos) (rdE (bs X) W (eBin dIxD ma mb)) := e_ixD (by have := room_u hr; omega) ha hb hs
theorem g_int {i : Int} (hg : Gl X x) (hm : ∃ t, X.mg x = some (.int i t)) (hd : (x == ("__debug__" : Str)) = false) : PE X (.Name x pos) (rdE (bs X) W (eC (.int i))) := by
  obtain ⟨t, hm⟩ := hm
  exact pe_weak (pe_glob (v := .int i) hg hm ⟨t, rfl⟩ hd) (rdC fun _ => .int i)
theorem g_blt {id : String} {r : List V → Hp → VK → Prop} {f : List Dt → Option Val} (hc : CallR X (.builtin id) r) (hf : CallFit (bs X) r f) (hv : bootBuiltins x = some (.builtin id)) (hg : Gl X x) (hm : X.mg x = none) (ha : PA X (e :: es) (rdA (bs X) W ms))
    (hn : x ≠ "__name__") (hdb : (x == ("__debug__" : Str)) = false) (he : starEach (e :: es) X.env = (false, eval e X.env) :: starEach es X.env) (hpl : (backTo pos (starEach es X.env)).any (·.1) = false) : PE X (.Call (.Name x p) (e :: es) [] pos) (rdE (bs X) W (eCall f ms)) :=
  pe_weak (pe_callB hc hg hm hv ha hn hdb he hpl) (rd_call hf)
theorem g_bty {T : String} {r : List V → Hp → VK → Prop} {f : List Dt → Option Val} (hc : CallR X (.type T) r) (hf : CallFit (bs X) r f) (hv : bootBuiltins x = some (.type T)) (hg : Gl X x) (hm : X.mg x = none) (ha : PA X (e :: es) (rdA (bs X) W ms))
    (hn : x ≠ "__name__") (hdb : (x == ("__debug__" : Str)) = false) (he : starEach (e :: es) X.env = (false, eval e X.env) :: starEach es X.env) (hpl : (backTo pos (starEach es X.env)).any (·.1) = false) : PE X (.Call (.Name x p) (e :: es) [] pos) (rdE (bs X) W (eCall f ms)) :=
  pe_weak (pe_callTy hc hg hm hv ha hn hdb he hpl) (rd_call hf)
section
variable (ha : PA X (e :: es) (rdA (bs X) W ms)) (he : starEach (e :: es) X.env = (false, eval e X.env) :: starEach es X.env) (hpl : (backTo pos (starEach es X.env)).any (·.1) = false)
include ha he hpl
theorem g_len (hg : Gl X "len") (hm : X.mg "len" = none) : PE X (.Call (.Name "len" p) (e :: es) [] pos) (rdE (bs X) W (eCall dLen ms)) := g_blt call_len fit_len boot_len hg hm ha (by decide) (by decide) he hpl
theorem g_abs (hg : Gl X "abs") (hm : X.mg "abs" = none) : PE X (.Call (.Name "abs" p) (e :: es) [] pos) (rdE (bs X) W (eCall dAbs ms)) := g_blt call_abs fit_abs boot_abs hg hm ha (by decide) (by decide) he hpl
theorem g_max (hc : X.calm = true) (hg : Gl X "max") (hm : X.mg "max" = none) : PE X (.Call (.Name "max" p) (e :: es) [] pos) (rdE (bs X) W (eCall dMax ms)) := g_blt (call_max2 hc) fit_max boot_max hg hm ha (by decide) (by decide) he hpl
theorem g_min (hc : X.calm = true) (hg : Gl X "min") (hm : X.mg "min" = none) : PE X (.Call (.Name "min" p) (e :: es) [] pos) (rdE (bs X) W (eCall dMin ms)) := g_blt (call_min2 hc) fit_min boot_min hg hm ha (by decide) (by decide) he hpl
theorem g_toint (hg : Gl X "int") (hm : X.mg "int" = none) : PE X (.Call (.Name "int" p) (e :: es) [] pos) (rdE (bs X) W (eCall dInt ms)) := g_bty call_int1 fit_int boot_int hg hm ha (by decide) (by decide) he hpl
theorem g_list (hg : Gl X "list") (hm : X.mg "list" = none) : PE X (.Call (.Name "list" p) (e :: es) [] pos) (rdE (bs X) W (eCall dList ms)) := g_bty call_list_of fit_list boot_list hg hm ha (by decide) (by decide) he hpl
theorem g_tuple (hg : Gl X "tuple") (hm : X.mg "tuple" = none) : PE X (.Call (.Name "tuple" p) (e :: es) [] pos) (rdE (bs X) W (eCall dTuple ms)) := g_bty call_tupleF fit_tuple boot_tuple hg hm ha (by decide) (by decide) he hpl
theorem g_sorted (hc : X.calm = true) (hg : Gl X "sorted") (hm : X.mg "sorted" = none) : PE X (.Call (.Name "sorted" p) (e :: es) [] pos) (rdE (bs X) W (eCall dSorted2 ms)) := g_blt (CallR.or cr_sortedI (cr_sortedDI hc)) fit_sorted2 boot_sorted hg hm ha (by decide) (by decide) he hpl
theorem g_dict (hc : X.calm = true) (hg : Gl X "dict") (hm : X.mg "dict" = none) : PE X (.Call (.Name "dict" p) (e :: es) [] pos) (rdE (bs X) W (eCall dDict ms)) := g_bty (cr_dict hc) fit_dict boot_dict hg hm ha (by decide) (by decide) he hpl
theorem g_repr (hgd : X.A.guards = some []) (hr : Room k X.A) (hg : Gl X "repr") (hm : X.mg "repr" = none) : PE X (.Call (.Name "repr" p) (e :: es) [] pos) (rdE (bs X) W (eCall dRepr ms)) := g_blt (cr_repr hgd (by have := room_u hr; omega)) fit_repr boot_repr hg hm ha (by decide) (by decide) he hpl
end
section
variable (ho : PE X o (rdE (bs X) W mo)) (ha : PA X [e] (rdA (bs X) W ms)) (hbase : ∀ nm, attributeBase o nm X.env (eval o X.env) = eval o X.env)
    (hfew : ((backTo cpos (starEach [e] X.env)).all (fun x => !x.1) && (backToKw cpos (keywordEach [] X.env)).all (fun x => x.1.isSome)
      && decide ([e].length + ([] : List Keyword).length + (if ([] : List Keyword).isEmpty then 0 else 1) < 30)) = true)
    (hline : (apos.endLine == cpos.line) = true) (hs : starEach [e] X.env = (false, eval e X.env) :: starEach [] X.env) (hplain : (backTo cpos (starEach [] X.env)).any (·.1) = false)
include ho ha hbase hfew hline hs hplain
theorem g_append : PE X (.Call (.Attribute o "append" apos) [e] [] cpos) (rdE (bs X) W (eMut fApp mo ms)) := e_mut PySem.F.plainAttrs_list PySem.F.slot_list_append PySem.F.type_list_append mt_append fit_app ho ha (hbase _) hfew hline hs hplain
theorem g_extend : PE X (.Call (.Attribute o "extend" apos) [e] [] cpos) (rdE (bs X) W (eMut fExt mo ms)) := e_mut PySem.F.plainAttrs_list PySem.F.slot_list_extend PySem.F.type_list_extend mt_extend fit_ext ho ha (hbase _) hfew hline hs hplain
theorem g_popAt : PE X (.Call (.Attribute o "pop" apos) [e] [] cpos) (rdE (bs X) W (eMut fPop mo ms)) := e_mut PySem.F.plainAttrs_list PySem.F.slot_list_pop PySem.F.type_list_pop (MtR.or' mt_pop mt_popAt) fit_pop ho ha (hbase _) hfew hline hs hplain
end
theorem g_pop (ho : PE X o (rdE (bs X) W mo)) (hbase : attributeBase o "pop" X.env (eval o X.env) = eval o X.env) (hline : (apos.endLine == cpos.line) = true) :
    PE X (.Call (.Attribute o "pop" apos) [] [] cpos) (rdE (bs X) W (eMut fPop mo aNil)) := e_mut0 PySem.F.plainAttrs_list PySem.F.slot_list_pop PySem.F.type_list_pop (MtR.or' mt_pop mt_popAt) fit_pop ho hbase hline
theorem g_get {md : M Val} (hr : Room k X.A) (ho : PE X o (rdE (bs X) W mo)) (he : PE X e (rdE (bs X) W ma)) (hf : PE X f (rdE (bs X) W md)) (h1 : attributeBase o "get" X.env (eval o X.env) = eval o X.env)
    (h2 : ((backTo cpos (starEach [e, f] X.env)).all (fun x => !x.1) && (backToKw cpos (keywordEach [] X.env)).all (fun x => x.1.isSome) && decide (([e, f] : List Expr).length + ([] : List Keyword).length + (if ([] : List Keyword).isEmpty then 0 else 1) < 30)) = true)
    (h3 : (apos.endLine == cpos.line) = true) (h4 : backTo cpos (starEach [e, f] X.env) = [(false, eval e X.env), (false, eval f X.env)]) : PE X (.Call (.Attribute o "get" apos) [e, f] [] cpos) (rdE (bs X) W (eGet2 mo ma md)) :=
  e_get2 (by have := room_u hr; omega) ho he hf ⟨h1, h2, h3, h4⟩
theorem u1 (hr : Room k X.A) : X.A.units + 1 < cLine := by have := room_u hr; omega
theorem u65 (hr : Room k X.A) : X.A.units + 65 < cLine := by have := room_u hr; omega
def blkB (N : List Str) (sc scope : Scope) (own : List (Str × Nat)) : Bool :=
  scope.names.all (fun y => scope.names.lookup y.1 == some y.2) && own.all (fun p => N[p.2]? == some p.1) &&
  scope.names.all (fun y => !(y.2 == .free) || (sc.names.lookup y.1 == some .cell || sc.names.lookup y.1 == some .free)) &&
  scope.names.all (fun y => !(y.2 == .local || y.2 == .cell) || (own.any (fun p => p.1 == y.1) || !N.any (fun x => x == y.1)))
theorem blk_ok {N : List Str} {sc scope : Scope} {own : List (Str × Nat)} (hk : scope.kind = .function) (h : blkB N sc scope own = true) : BlkOk N sc scope own := by
  unfold blkB at h
  simp only [Bool.and_eq_true, List.all_eq_true, beq_iff_eq, Bool.or_eq_true, Bool.not_eq_true', beq_eq_false_iff_ne, List.any_eq_true, ne_eq, decide_eq_true_eq] at h
  obtain ⟨⟨⟨h1, h2⟩, h3⟩, h4⟩ := h
  refine ⟨hk, h1, h2, fun y hy e => ?_, fun y hy e => ?_⟩
  · rcases h3 y hy with q | q
    · rw [e] at q
      simp at q
    · exact q
  · rcases h4 y hy with q | q
    · simp only [Bool.or_eq_false_iff, beq_eq_false_iff_ne] at q
      rcases e with e | e
      · exact absurd e q.1
      · exact absurd e q.2
    · rcases q with ⟨p, hp, e2⟩ | q
      · exact .inl (by rw [← e2]; exact List.mem_map_of_mem hp)
      · refine .inr fun hm => ?_
        rw [List.any_eq_false] at q
        exact q _ hm (by simp)
def eDict0 : M Val := fun s => .ok (.ow (.dict [])) s
theorem g_dict0 : PE X (.Dict [] [] pos) (rdE (bs X) W eDict0) := pe_weak pe_dnewK fun σ H Q ⟨z, s, g, h⟩ p hp => h.ow g (.dK .nil) hp
theorem g_no {tg : Expr} : PI X tg e (rdI (bs X) W fun _ => .bad) := ⟨fun _ _ _ _ _ _ ⟨_, _, _, h⟩ => h.elim⟩
theorem t_nil : PTs X [] (rdB (bs X) W bYes) := ⟨fun pins s σ H Q I ⟨z, u, g, h⟩ => pts_nil.run pins s σ H Q I (h z H (.refl g))⟩
end
end Rf

namespace PySem
set_option maxHeartbeats 1000000 in
theorem enum_newB {v : Value} {o : Obj} {H : Heap → Prop} (B : Begins v o H) :
    Meets (Builtin.«enumerate.__new__» ⟨[.type "enumerate", v], []⟩) (fun _ R s => H s.heap ∧
      R (.ok (.ret (.ref (s.heap.push o).objs.size))) { s with heap := (s.heap.push o).push { cls := .type "enumerate", data := .fields #[.none, .bool false, .ref s.heap.objs.size, rawInt 0, .none, .none] } }) :=
  .of_wp fun prog w A R s h => by
    obtain ⟨hp, g, d, tk, os⟩ := s
    obtain ⟨h1, h⟩ := h
    have hsub := sub_enumerate
    have it : ∀ {A' : Around} {E' : Value → Shared → Prop} {Q' : Value → Shared → Prop}, Q' (.ref hp.objs.size) ⟨hp.push o, g, d, tk, os⟩ → wpAny (model prog w) A' (pyIter v) Q' E' ⟨hp, g, d, tk, os⟩ :=
      fun q => B.iter prog w _ _ ⟨hp, g, d, tk, os⟩ _ h1 q
    wp_walk using it
    refine wpAny_stack_any fun st => wpAny_pure ?_
    split
    · rename_i c _ _ _ _ _
      cases (c == Value.type "enumerate") <;> (wp_walk using it; exact ⟨_, rfl, h⟩)
    · wp_walk using it
      exact ⟨_, rfl, h⟩
theorem enum_call {prog : Program} {w : World} {A : Around} {E : Value → Shared → Prop} {s : Shared} {v : Value} {o : Obj} {H : Heap → Prop} {Q : Value → Shared → Prop} (B : Begins v o H) (h1 : H s.heap)
    (h : ∀ h', IsEnum h' (s.heap.objs.size + 1) s.heap.objs.size 0 .none → h'.get? s.heap.objs.size = some o → (∀ b o, s.heap.get? b = some o → h'.get? b = some o) → Q (.ref (s.heap.objs.size + 1)) { s with heap := h' }) :
    wpAny (model prog w) A (call (.type "enumerate") [v]) Q E s := by
  refine callType_new F.called_enumerate (by decide) (F.typeCall_enumerate_1 _) (F.newCall_enumerate_1 _) (fun ob => F.args_object_init_2 ob _) F.entry_enumerate_new (enum_newB B) ⟨h1, ?_⟩
  have hz : (s.heap.push o).objs.size = s.heap.objs.size + 1 := Heap.size_push ..
  have he := Heap.get?_push_size (s.heap.push o) (o := { cls := .type "enumerate", data := .fields #[.none, .bool false, .ref s.heap.objs.size, rawInt 0, .none, .none] }) rfl
  rw [hz] at he
  show _ ∧ _
  rw [hz]
  exact ⟨⟨_, he, rfl⟩, h _ he (Heap.get?_push_of_some _ (Heap.get?_push_size _ B.free)) fun b x e => Heap.get?_push_of_some _ (Heap.get?_push_of_some _ e)⟩
end PySem
namespace Rf
open PySem PySem.Spec PyProof.Rows L2
def IteT (K : PySem.W.Frag) (a : Addr) : It :=
  ⟨fun i H => ∃ (xs : List V) (x : V), SqT K H a xs ∧ xs[i]? = some x,
   fun i H v H' => ∃ T x, v = .ref T ∧ H T = none ∧ H' = upd H T (.tup [.int (i : Nat), x]) ∧ ∀ xs, SqT K H a xs → xs[i]? = some x,
   fun i H => ∃ xs : List V, SqT K H a xs ∧ xs.length ≤ i⟩
theorem turn_enumT {P : Program} {w : World} {K : PySem.W.Frag} {elts : List Expr} {kk : Nat} {tpos : Pos} (a e it : Addr) (hti : a ≠ it) (hte : e ≠ a) :
    Turn P w K (.Tuple elts kk tpos) (IteT K a) [e, it] e (fun i h => (∃ old, IsEnum h e it ((i : Nat) : Int) old) ∧ h.IsTupleIter it a i ∧ e ≠ it) where
  mem := by simp
  obj := fun i h ⟨⟨_, he⟩, ⟨o, ho, _, hd⟩, _⟩ b hb => by
    rcases (show b = e ∨ b = it by simpa using hb) with rfl | rfl
    · exact ⟨_, he, fun v q => nomatch q⟩
    · exact ⟨o, ho, fun v q => by rw [hd] at q; cases q⟩
  keep := fun i h h' ⟨⟨old, he⟩, hi, hne⟩ k => ⟨⟨old, k e (by simp) _ he⟩, hi.at fun o => k it (by simp) o, hne⟩
  item := by
    intro X hP hw hK hc i pins s σ H E I hf ⟨⟨old, he⟩, hit, hne⟩ ⟨xs, x, hq, hx⟩
    subst hP hw hK
    obtain ⟨its, rv, p, hz⟩ := I.tuple hq
    obtain ⟨u, hu, ru⟩ := rv.get hx
    have hel : e < s.heap.objs.size := Heap.lt_size he
    have hil : it < s.heap.objs.size := by obtain ⟨_, q, _⟩ := hit; exact Heap.lt_size q
    have hlt : i < its.toArray.size := by
      rcases Nat.lt_or_ge i its.length with q | q
      · simpa using q
      · rw [List.getElem?_eq_none q] at hu; cases hu
    refine wpAny_pyNext_enum_itemD (Draws.tuple (A := X.A.in1) (I.ok.hd hc) it a hti its.toArray) he ⟨hit, p⟩ hlt hne (by simp; exact ⟨hne, hte⟩) fun x' h' tk hPx ho hst hT hsz hk => ?_
    have ex : x' = u := by
      have h1 : its.toArray[i]? = some x' := hPx
      have h2 : its.toArray[i]? = some u := by simpa using hu
      rw [h1] at h2; exact Option.some.inj h2
    subst ex
    refine ⟨_, rfl, wpAny_letOwnedTupleGo_enum (s := { s with heap := h', toks := tk + 1 }) ho fun h'' he' sb => ?_⟩
    have hT2 : h''.get? s.heap.objs.size = some { cls := .type "tuple", data := .seq #[.int i tk, x'] } := (sb.2 _ (Nat.ne_of_gt hel)).trans hT
    have new : ObjOk X.prog X.w (upd H s.heap.objs.size (.tup [.int (i : Nat), x])) h'' s.heap.objs.size (.tup [.int (i : Nat), x]) :=
      ⟨by show 2 ≤ sizeLine; decide, [.int i tk, x'], .cons ⟨_, rfl⟩ (.cons ru .nil), ⟨_, hT2, rfl, _, rfl⟩⟩
    have I1 : Inv X pins σ (upd H s.heap.objs.size (.tup [.int (i : Nat), x])) { s with heap := h'', toks := tk + 1 } := by
      refine I.turnedNew (ch := [e, it]) (fun b ob hb q => ?_) hf (Nat.le_refl _) new
      have b1 : b ≠ e := fun z => hb (by simp [z])
      have b2 : b ≠ it := fun z => hb (by simp [z])
      exact (sb.2 b b1).trans (hk b ob b1 b2 q)
    refine ⟨.ref s.heap.objs.size, _, I1, rfl, ⟨_, x, rfl, I.hok.fresh (Nat.le_refl _), rfl, fun ys hy => by rw [I.tuple_inj hy hq]; exact hx⟩, ⟨⟨x', ?_⟩, hst.1.at fun o q => (sb.2 it (Ne.symm hne)).trans q, hne⟩, fun b hb => ?_⟩
    · rw [show ((i + 1 : Nat) : Int) = (i : Int) + 1 by omega]
      exact he'
    · have hb' : b < s.heap.objs.size := by
        rcases (show b = e ∨ b = it by simpa using hb) with rfl | rfl
        · exact hel
        · exact hil
      rw [upd_ne (Nat.ne_of_lt hb')]
      exact (hf b hb).1
  done := by
    intro X hP hw hK hc i pins s σ H E I hf ⟨⟨old, he⟩, hit, hne⟩ ⟨xs, hq, hx⟩
    subst hP hw hK
    obtain ⟨its, rv, p, hz⟩ := I.tuple hq
    have hl := rv.length
    have hT : s.TypeIs (.ref e) "enumerate" := ⟨_, he, rfl⟩
    unfold pyNext
    refine wpAny_bind (wpAny_attempt (wpAny_callSpecial?_slot (name := Str.ofString "__next__") hT PySem.F.slot_enumerate_next (wpAny_call_entry PySem.F.slot_enumerate_next hT PySem.F.entry_enumerate_next ?_ (PySem.F.args_enumerate_next_1 _))))
    show wpAny _ _ (field (.ref e) 2 >>= _) _ _ _
    refine wpAny_bind (wpAny_field he rfl (x := .ref it) rfl (wpAny_bind (wpAny_nextOf_tuple_end (A := X.A.in1) (I.ok.hd hc) hit p (by simp; omega) fun h' x' he' ⟨o, ho, hcl⟩ => ?_)))
    refine wpAny_bind (wpAny_isInstance (T := "StopIteration") (b := true) ⟨o, ho, hcl⟩ isSubtype_stop (wpAny_pure ⟨rfl, ?_⟩))
    obtain ⟨f0, f1, f2, f3, f4, f5⟩ := hf it (by simp)
    exact I.turned (t' := s.toks) (fun b o hb q => he' b o hb q) f0 f1 f3 f4 f5
  self := fun A i s Q E ⟨⟨_, he⟩, _⟩ h => wpAny_pyIter_enum he h
def enumD (ds : List Dt) : List Dt := List.zipWith (fun (i : Nat) d => PyData.tuple [.int i, d]) (List.range ds.length) ds
def iEnum (ms : M (List Val)) : M (List Dt) := fun s => (ms s).bind fun vs s1 => match frzs s1 vs with
  | some (ds, s2) => (match ds with
    | [.list xs] => .ok (enumD xs) s2
    | [.tuple xs] => .ok (enumD xs) s2
    | _ => .bad)
  | none => .bad
theorem enumD_get {B : Bs} {z : Fz} {vs : List V} {xs : List Dt} {i : Nat} {d : Dt} (r : Reps B z vs xs) (h : (enumD xs)[i]? = some d) : ∃ a x, d = .tuple [.int (i : Nat), a] ∧ vs[i]? = some x ∧ Rep B z x a := by
  unfold enumD at h
  rw [List.getElem?_zipWith] at h
  cases e2 : xs[i]? with
  | none => rw [e2] at h; cases e : (List.range xs.length)[i]? <;> rw [e] at h <;> cases h
  | some b =>
    have hi : i < xs.length := by
      rcases Nat.lt_or_ge i xs.length with q | q
      · exact q
      · rw [List.getElem?_eq_none q] at e2; cases e2
    rw [e2, List.getElem?_range hi] at h
    obtain ⟨x, hx, rx⟩ := r.getD e2
    cases h
    exact ⟨b, x, rfl, hx, rx⟩
theorem walks_enum {B : Bs} {z : Fz} {a : Addr} {vs : List V} {xs : List Dt} (h1 : z.F a = some (.lst vs)) (r : Reps B z vs xs) : Walks B z (Ite B.K a) (enumD xs) := by
  intro z' i H le sub
  have g1 : SqL B.K H a vs := .of (sub _ _ (le.F _ _ h1))
  refine ⟨fun hi => ⟨vs, g1, ?_⟩, fun d hd => ?_⟩
  · rw [r.length]
    unfold enumD at hi
    rw [List.length_zipWith, List.length_range] at hi
    omega
  · obtain ⟨da, x, rfl, hx, rx⟩ := enumD_get r hd
    refine ⟨⟨vs, x, g1, hx⟩, fun v H' ⟨T, x', ev, hT, eH, f1⟩ => .inr ⟨T, [.int (i : Nat), x'], _, ev, rfl, hT, eH, rfl, ?_⟩⟩
    have e1 := f1 vs g1
    rw [hx] at e1
    cases e1
    exact .cons (.int _) (.cons (rx.mono le) .nil)
theorem walks_enumT {B : Bs} {z : Fz} {a : Addr} {vs : List V} {xs : List Dt} (h1 : SqT B.K z.F a vs) (r : Reps B z vs xs) : Walks B z (IteT B.K a) (enumD xs) := by
  intro z' i H le sub
  have g1 : SqT B.K H a vs := sqT_mono sub (sqT_mono le.F h1)
  refine ⟨fun hi => ⟨vs, g1, ?_⟩, fun d hd => ?_⟩
  · unfold enumD at hi
    rw [List.length_zipWith, List.length_range] at hi
    rw [r.length]; omega
  · obtain ⟨da, x, rfl, hx, rx⟩ := enumD_get r hd
    refine ⟨⟨vs, x, g1, hx⟩, fun v H' ⟨T, x', ev, hT, eH, f1⟩ => .inr ⟨T, [.int (i : Nat), x'], _, ev, rfl, hT, eH, rfl, ?_⟩⟩
    have e1 := f1 vs g1
    rw [hx] at e1
    cases e1
    exact .cons (.int _) (.cons (rx.mono le) .nil)
def tiEnum (K : PySem.W.Frag) (ta : TA) : TI := fun σ H R => ta σ H fun vs H1 => ∃ a xs, vs = [.ref a] ∧ ((SqL K H1 a xs ∧ R (Ite K a) H1) ∨ (SqT K H1 a xs ∧ R (IteT K a) H1))
theorem pi_enumA {X : Cx} {e : Expr} {ta : TA} {p pos tpos : Pos} {elts : List Expr} {kk : Nat} (hg : Gl X "enumerate") (hm : X.mg "enumerate" = none) (ha : PA X [e] ta) (hs : starEach [e] X.env = [(false, eval e X.env)]) :
    PI X (.Tuple elts kk tpos) (.Call (.Name "enumerate" p) [e] [] pos) (tiEnum X.K ta) := by
  refine ⟨fun pins s σ H R I h => Call_ (ld_blt I hg hm boot_enumerate (PyProof.Rows.callWith_type1 (thn (ha.run pos pins s σ H _ I h) fun us s1 ⟨vs, H1, I1, r1, a, xs, ex, q⟩ => ?_) hs rfl))⟩
  subst ex
  rw [Vals.ref1 r1]
  have fp : ∀ b ∈ [s1.heap.objs.size + 1, s1.heap.objs.size], FpOk X pins H1 b := fun b hb => by
    rcases (show b = s1.heap.objs.size + 1 ∨ b = s1.heap.objs.size by simpa using hb) with rfl | rfl
    · exact I1.fpOk (Nat.le_succ _) (I1.hok.fresh (Nat.le_succ _))
    · exact I1.fpOk (Nat.le_refl _) (I1.hok.fresh (Nat.le_refl _))
  rcases q with ⟨hq, q⟩ | ⟨hq, q⟩
  · obtain ⟨its, rv, p', hz⟩ := I1.list hq
    exact call_enumerate_list p'.isList fun h' he hit hsz hk => wpAny_pyIter_enum he ⟨s1.heap.objs.size + 1, _, _, _, H1, rfl, I1.kept (t' := s1.toks) hk, turn_enum a (s1.heap.objs.size + 1) s1.heap.objs.size, ⟨⟨.none, he⟩, hit, Nat.succ_ne_self _⟩, fp, q⟩
  · obtain ⟨its, rv, p', hz⟩ := I1.tuple hq
    have hlt : a < s1.heap.objs.size := by obtain ⟨_, q, _⟩ := id p'; exact Heap.lt_size q
    exact enum_call (begins_tuple a its.toArray) p' fun h' he hit hk => wpAny_pyIter_enum he ⟨s1.heap.objs.size + 1, _, _, _, H1, rfl, I1.kept (t' := s1.toks) hk, turn_enumT a (s1.heap.objs.size + 1) s1.heap.objs.size (Nat.ne_of_lt hlt) (Nat.ne_of_gt (Nat.lt_succ_of_lt hlt)), ⟨⟨.none, he⟩, ⟨_, hit, rfl, rfl⟩, Nat.succ_ne_self _⟩, fp, q⟩
section
variable {X : Cx} {W : WX} {e : Expr} {ms : M (List Val)} {p pos tpos : Pos} {elts : List Expr} {kk : Nat}
theorem i_enum (hg : Gl X "enumerate") (hm : X.mg "enumerate" = none) (ha : PA X [e] (rdA (bs X) W ms)) (hs : starEach [e] X.env = [(false, eval e X.env)]) :
    PI X (.Tuple elts kk tpos) (.Call (.Name "enumerate" p) [e] [] pos) (rdI (bs X) W (iEnum ms)) := by
  refine ⟨fun pins s σ H R I ⟨z, u, g, h⟩ => (pi_enumA hg hm ha hs).run pins s σ H R I ⟨z, u, g, (ROL.bindI h).mono fun vs H1 ⟨z1, s1, vals, st1, v1, h1⟩ => ?_⟩⟩
  obtain ⟨ds, z2, s2, st2, r, h2⟩ := ROI.frzs st1 v1 h1
  split at h2
  · cases r with
    | cons r1 rr =>
      cases rr
      obtain ⟨a, vs, rfl, hF1, q1⟩ := r1.lst_inv
      exact ⟨a, vs, rfl, .inl ⟨.of (st2.good.sub _ _ hF1), h2 z2 H1 _ st2 (walks_enum (B := bs X) hF1 q1)⟩⟩
  · cases r with
    | cons r1 rr =>
      cases rr
      obtain ⟨a, vs, rfl, hF1, q1⟩ := r1.tup_inv
      exact ⟨a, vs, rfl, .inr ⟨sqT_mono st2.good.sub hF1, h2 z2 H1 _ st2 (walks_enumT (B := bs X) hF1 q1)⟩⟩
  · exact h2.elim
end
end Rf

set_option maxHeartbeats 2000000
namespace Rf
open PySem PySem.Spec PyProof.Rows L2
open PySem.W (kxs_mw KxsAt)
structure SupF (P : Program) (K : PySem.W.Frag) (C fI : Addr) (qual : Str) (params : Arguments) (body : List Stmt) (scope : Scope) (fd : FuncData) : Prop where
  fn : ∃ oc od osl, ∃ x : Str, ∃ dV kV doc pm an cda ct cc, fd = PySem.W.fnX x qual params body scope [("__class__", cc)] dV kV doc pm an (.ref cda) ct ∧ K.lookup fI = some ⟨oc, od, .func fd, osl⟩ ∧ PySem.W.codeIn K (.ref cda) qual = true ∧
    (∃ ccl cdd vs ccs file tf, K.lookup cda = some ⟨ccl, cdd, .fields vs, ccs⟩ ∧ vs[2]? = some (.str file tf) ∧ ((P.main.file : Str) == file) = true) ∧
    ∃ cl cld csl, K.lookup cc = some ⟨cl, cld, .cell (some (.ref C)), csl⟩
  self : PySem.W.mroIn K C (.ref C) = some true
  sup : PySem.W.ks_superIn K C C "__init__" = some (some (.builtin "ValueError.__init__"))
  isV : PySem.W.subIn K (.ref C) (.type "ValueError") = some true
  opq : PySem.W.nsIn K cStatics "thirdparty.any" = some none
  nos : PySem.W.nsIn K mainGlobals "super" = some none
  top : (P.main.scope.names.lookup ("super" : Str)).isSome = false
section
variable {prog : Program} {w : World} {A : Around} {E : Value → Shared → Prop} {hp : Heap} {g : Array GenState} {d : Drawn} {t : Nat} {os : OsState}
variable {nm q : Str} {C N : Addr} {bs bm : List Value} {hdct : Bool} {sn : List Str} {sub : List Value} {ab : Bool} {col : Option Bool} {dd : Option Addr} {k0 k1 k2 k3 k5 : Option Value}
theorem mw_call {u e t0 : Addr} {rest : List Value} {Q : Value → Shared → Prop}
    (hC : hp.get? C = some (excClassObj nm q C N bs bm hdct sn sub ab col dd k0 k1 k2 k3 k5 "ValueError.__new__")) (he : hp.get? e = some (HandSPX.excO C t0)) (hu : hp.get? u = some (kxs_mw "ValueError.__init__" e)) (hrest : rest.length ≤ sizeLine)
    (hq : ∀ h' t1, (∀ b o, b ≠ e → hp.get? b = some o → h'.get? b = some o) → h'.get? e = some (HandSPX.excO C t1) → Q .none ⟨h', g, d, t, os⟩) :
    wpAny (model prog w) A (call (.ref u) rest) Q E ⟨hp, g, d, t, os⟩ := by
  refine wpAny_call (codeAny_of_tree ?_)
  show wpAny _ A.in1 (callAny (.ref u) ⟨rest, []⟩) _ _ _
  simp only [callAny]
  refine wpAny_bind (wpAny_load hu ?_)
  have b1 : (Value.type "method-wrapper" == Value.type "method" || Value.type "method-wrapper" == Value.type "builtin_function_or_method" || Value.type "method-wrapper" == Value.type "method-wrapper") = true := by decide
  simp only [kxs_mw, b1, if_true]
  refine PySem.W.KFB.if_so (by decide) ?_
  refine wpAny_bind (PySem.W.check_bound_init F.excBase_ValueError.toExcCallFacts hC he rfl ?_)
  refine wpAny_bind (wpAny_pure (wpAny_pure ?_))
  refine ⟨plainId_quiet F.excBase_ValueError.init.plain _, codeAny_builtin F.excBase_ValueError.initEntry ?_⟩
  rw [Around.under_plainId F.excBase_ValueError.init.plain _]
  wp_walk
  refine hq _ hp.objs.size (fun b o hb ho => ?_) ?_
  · rw [Heap.get?_update_other _ _ (Ne.symm hb)]; exact Heap.get?_push_of_some _ ho
  · rw [Heap.get?_update_self _ (Heap.get?_push_of_some _ he) rfl]; rfl
end
section
variable {prog : Program} {w : World} {A : Around} {E : Value → Shared → Prop} {h : Heap} {g : Array GenState} {d : Drawn} {t : Nat} {os : OsState} {K : PySem.W.Frag}
abbrev supX (p0 p1 p2 p3 : Pos) (args : List Expr) : Expr := .Call (.Attribute (.Call (.Name "super" p0) [] [] p1) "__init__" p2) args [] p3
theorem sup_call {C fI a L t0 : Addr} {x qual : Str} {params : Arguments} {body : List Stmt} {scope : Scope} {dV kV doc pm ct : Value} {an : Option Addr} {cda cc : Addr} {ar : Arg} {m mg mb : Str → Option Value}
    {oc : Value} {od : Option Addr} {osl : Array (Option Value)} {ccl : Value} {cdd : Option Addr} {vs : Array Value} {ccs : Array (Option Value)} {file : Str} {tf : Tok} {cl : Value} {cld : Option Addr} {csl : Array (Option Value)}
    {p0 p1 p2 p3 : Pos} {e : Expr} {es : List Expr} {us : List Value} {pl : Sem Bool} {Q : Value → Shared → Prop}
    (X : K.In h) (T : OexC K C) (fo : K.lookup fI = some ⟨oc, od, .func (PySem.W.fnX x qual params body scope [("__class__", cc)] dV kV doc pm an (.ref cda) ct), osl⟩)
    (hcode : K.lookup cda = some ⟨ccl, cdd, .fields vs, ccs⟩) (hvs : vs[2]? = some (.str file tf)) (hfile : ((prog.main.file : Str) == file) = true) (hcell : K.lookup cc = some ⟨cl, cld, .cell (some (.ref C)), csl⟩)
    (hself : PySem.W.mroIn K C (.ref C) = some true) (hsup : PySem.W.ks_superIn K C C "__init__" = some (some (.builtin "ValueError.__init__"))) (hisV : PySem.W.subIn K (.ref C) (.type "ValueError") = some true)
    (hopq : PySem.W.nsIn K cStatics "thirdparty.any" = some none) (hmg : h.Ns mainGlobals mg) (hnos : mg "super" = none) (hmb : h.Ns builtinsNs mb) (hbs : mb "super" = some (.type "super")) (htop : (prog.main.scope.names.lookup ("super" : Str)).isSome = false)
    (hp : (params.posonlyargs ++ params.args).head? = some ar) (hns : h.Ns L m) (hv : m ar.arg = some (.ref a)) (hka : scope.names.lookup ar.arg = some .local) (hk : scope.kind = .function)
    (hks : scope.names.lookup ("super" : Str) = some .globalImplicit) (hkc : scope.names.lookup ("__class__" : Str) = some .free) (ha : h.get? a = some (HandSPX.excO C t0)) (hl : us.length ≤ sizeLine)
    (hargs : ∀ (s' : Shared) (Q' : List Value → Shared → Prop), (∀ b o, h.get? b = some o → s'.heap.get? b = some o) → Q' us s' → wpAny (model prog w) A (spliced (backTo p3 (starEach (e :: es) (callEnv (PySem.W.fnX x qual params body scope [("__class__", cc)] dV kV doc pm an (.ref cda) ct) L fI)))) Q' E s')
    (hpl : (backTo p3 (starEach es (callEnv (PySem.W.fnX x qual params body scope [("__class__", cc)] dV kV doc pm an (.ref cda) ct) L fI))).any (·.1) = false)
    (he : starEach (e :: es) (callEnv (PySem.W.fnX x qual params body scope [("__class__", cc)] dV kV doc pm an (.ref cda) ct) L fI) = (false, eval e (callEnv (PySem.W.fnX x qual params body scope [("__class__", cc)] dV kV doc pm an (.ref cda) ct) L fI)) :: starEach es (callEnv (PySem.W.fnX x qual params body scope [("__class__", cc)] dV kV doc pm an (.ref cda) ct) L fI))
    (hev : eval (supX p0 p1 p2 p3 (e :: es)) (callEnv (PySem.W.fnX x qual params body scope [("__class__", cc)] dV kV doc pm an (.ref cda) ct) L fI) = (do
      let ov ← attributeBase (.Call (.Name "super" p0) [] [] p1) "__init__" (callEnv (PySem.W.fnX x qual params body scope [("__class__", cc)] dV kV doc pm an (.ref cda) ct) L fI) (eval (.Call (.Name "super" p0) [] [] p1) (callEnv (PySem.W.fnX x qual params body scope [("__class__", cc)] dV kV doc pm an (.ref cda) ct) L fI))
      standAt p2.atName
      let (f, first) ← holding [ov] (getMethod ov "__init__" pl)
      callWith p3 f first (backTo p3 (starEach (e :: es) (callEnv (PySem.W.fnX x qual params body scope [("__class__", cc)] dV kV doc pm an (.ref cda) ct) L fI))) []))
    (hq : ∀ h' t1 tk', (∀ b o, b ≠ a → h.get? b = some o → h'.get? b = some o) → h'.get? a = some (HandSPX.excO C t1) → Q .none ⟨h', g, d, tk', os⟩) :
    _root_.PySem.wpAt (model prog w) A (.func body (callEnv (PySem.W.fnX x qual params body scope [("__class__", cc)] dV kV doc pm an (.ref cda) ct) L fI)) (eval (supX p0 p1 p2 p3 (e :: es)) (callEnv (PySem.W.fnX x qual params body scope [("__class__", cc)] dV kV doc pm an (.ref cda) ct) L fI)) Q E ⟨h, g, d, t, os⟩ := by
  obtain ⟨nm, q, N, bs, bm, sn, sub, ab, col, dd, k0, k1, k2, k3, k5, hC, hbm⟩ := T.cls
  have hcl : PySem.W.clsIn K C = some { name := nm, bases := bs, mro := .ref C :: bm, ns := N, qualname := q, hasDict := true, slotNames := sn, subclasses := sub, abstract := ab, collection := col, hasDel := false } := by unfold PySem.W.clsIn; rw [hC] <;> rfl
  refine ks_wpAt_MethodCall (pl := pl) ?_ hev
  refine ks_wpAt_super_base (env := callEnv (PySem.W.fnX x qual params body scope [("__class__", cc)] dV kV doc pm an (.ref cda) ct) L fI) hks hkc (by decide) rfl (X _ _ fo) rfl hp rfl (X _ _ hcode) rfl hvs hfile htop ?_
  refine PySem.W.ks_loadName_global hk hks (Calls.loadGlobal_builtin hmg hnos hmb hbs ⟨rfl, ?_⟩)
  refine wpAny_loadName_free hk hkc (c := cc) rfl ⟨_, X _ _ hcell, rfl⟩ ?_
  refine wpAny_loadName_local hk hka hns hv ?_
  refine ks_wpAny_isType_cls (X _ _ hC) rfl ⟨rfl, ?_⟩
  refine ks_wpAny_call_super (X _ _ hC) rfl ha rfl (fun c e => by cases e) (PySem.W.looks_mroIn X hself) (fun h1 e1 k1 => ?_)
  have X1 : K.In h1 := X.keeps k1
  have ha1 := k1 _ _ ha
  have I1 : PySem.W.InstAt h1 a (HandSPX.excO C t0) C none := ⟨ha1, rfl, rfl, trivial⟩
  have hI : PySem.W.Looks (model prog w) h1 (isInstance (.ref a) (.type "ValueError")) true := I1.type.andThen (PySem.W.looks_subIn X1 hisV)
  unfold PySem.W.ks_superIn at hsup
  rw [hcl] at hsup
  refine PySem.W.kxs_getMethod PySem.W.kxs_ValueError e1 (PySem.W.looks_opaque X1 hopq) (l₀ := .ref C :: bm) (PySem.W.looks_clsIn X1 hcl |>.andThen .now) rfl X1 hsup hI (PySem.W.ks_ne X1 I1 hcl) (by decide) ?_
  show wpAny _ _ (callWith p3 (.ref h1.objs.size) [] (backTo p3 (starEach (e :: es) _)) []) _ _ _
  have k2 : ∀ b o, h1.get? b = some o → (h1.push (kxs_mw "ValueError.__init__" a)).get? b = some o := fun b o z => Heap.get?_push_of_some _ z
  have hmw : (h1.push (kxs_mw "ValueError.__init__" a)).get? h1.objs.size = some (kxs_mw "ValueError.__init__" a) := Heap.get?_push_at rfl rfl
  have hpl0 : (backTo p3 (starEach (e :: es) (callEnv (PySem.W.fnX x qual params body scope [("__class__", cc)] dV kV doc pm an (.ref cda) ct) L fI))).any (·.1) = false := by
    rw [he]
    exact hpl
  refine PySem.W.kxs_callWith (i := "ValueError.__init__") (x := a) hpl0 ?_
  have hA := hargs ⟨h1.push (kxs_mw "ValueError.__init__" a), g, d, t + 1, os⟩ (fun vs s' => KxsAt "ValueError.__init__" h1.objs.size a s'.heap ∧ wpAny (model prog w) A (call (.ref h1.objs.size) ([] ++ vs) []) Q E s') (fun b o z => k2 _ _ (k1 _ _ z)) ⟨hmw, mw_call (X.keeps (fun b o z => k2 _ _ (k1 _ _ z)) _ _ hC) (k2 _ _ ha1) hmw hl (fun h' t1 k3 hx => hq h' t1 (t + 1) (fun b o hb z => k3 b o hb (k2 _ _ (k1 _ _ z))) hx)⟩
  rw [he] at hA ⊢
  exact Calls.evalArgs_plain hA
end
def SupEv (qual : Str) (params : Arguments) (body : List Stmt) (scope : Scope) (p0 p1 p2 p3 : Pos) (args : List Expr) : Prop := ∀ (x : Str) (dV kV doc pm : Value) (an : Option Addr) (cda : Addr) (ct : Value) (cc L fI : Addr), ∃ pl : Sem Bool,
  eval (supX p0 p1 p2 p3 args) (callEnv (PySem.W.fnX x qual params body scope [("__class__", cc)] dV kV doc pm an (.ref cda) ct) L fI) = (do
      let ov ← attributeBase (.Call (.Name "super" p0) [] [] p1) "__init__" (callEnv (PySem.W.fnX x qual params body scope [("__class__", cc)] dV kV doc pm an (.ref cda) ct) L fI) (eval (.Call (.Name "super" p0) [] [] p1) (callEnv (PySem.W.fnX x qual params body scope [("__class__", cc)] dV kV doc pm an (.ref cda) ct) L fI))
      standAt p2.atName
      let (f, first) ← holding [ov] (getMethod ov "__init__" pl)
      callWith p3 f first (backTo p3 (starEach args (callEnv (PySem.W.fnX x qual params body scope [("__class__", cc)] dV kV doc pm an (.ref cda) ct) L fI))) [])
theorem ce_of {P : Program} {w : World} {outer : List Env} {H : Hp} {s s' : Shared} {Q : VK} {a C dx t1 : Addr} {fs : List (Str × V)} {mA : Str → Option Value} (hok : HOk P w H s.heap) (e : H a = some (exo a C none))
    (k : ∀ b o, b ≠ a → s.heap.get? b = some o → s'.heap.get? b = some o) (dn : s.heap.objs.size ≤ dx) (dne : dx ≠ a) (hx : s'.heap.get? a = some ({ cls := .ref C, dict := some dx, data := .fields #[.ref t1, .none, .none, .none, .bool false, .none] } : Obj))
    (hn : s'.heap.Ns1 dx mA) (rel : ∀ f, RelO (fs.lookup f) (mA f)) (ho : s'.os = s.os) (hb : AllBare s'.gens)
    (q : ∀ dx, H dx = none → dx ≠ a → Q .non (upd (upd H dx (exd dx fs)) a (exo a C (some dx)))) : CE outer P w H s Q .none s' := by
  have hnd : H dx = none := hok.fresh dn
  have nd : ∀ {b : Addr} {o : Obj}, s.heap.get? b = some o → b ≠ dx := fun {b o} z => Nat.ne_of_lt (Nat.lt_of_lt_of_le (Heap.lt_size z) dn)
  have na : ∀ {b : Addr}, H b = none → b ≠ a := fun {b} n z => by
    rw [z, e] at n
    cases n
  refine ⟨.non, upd (upd H dx (exd dx fs)) a (exo a C (some dx)), ho, hb, ?_, ?_, rfl, q dx hnd dne⟩
  · exact {
      keep := fun b o z n _ _ => k b o (na n) z
      slot := fun b o z n _ _ => ⟨o.slots, k b o (na n) z⟩
      free := fun b o z n _ => by rw [upd_ne (na n), upd_ne (nd z)]; exact n
      there := fun b o z _ => by
        by_cases hb : b = a
        · exact ⟨_, by rw [hb]; exact hx⟩
        · exact ⟨o, k b o hb z⟩
      tups := fun b xs z => by rw [upd_ne (at_ne e z exo_tup), upd_ne (ne_of_none z hnd)]; exact z
      frzs := fun b o v z => by rw [upd_ne (at_ne e z exo_frz), upd_ne (ne_of_none z hnd)]; exact z
      tbls := fun b ps z => ⟨#[], by rw [upd_ne (at_ne e z exo_tbl), upd_ne (ne_of_none z hnd), z]; simp⟩ }
  · intro b o z
    by_cases hb : b = a
    · subst hb
      rw [upd_same] at z
      cases z
      exact exo_ok hx
    · rw [upd_ne hb] at z
      by_cases hd : b = dx
      · subst hd
        rw [upd_same] at z
        cases z
        exact exd_ok hn rel
      · rw [upd_ne hd] at z
        exact (hok b o z).stay (fun c v hc y => k c v (by
            rcases hc with hc | hc
            · rw [hc]; exact hb
            · exact at_ne e hc exo_own) y)
          (fun c hc => by rw [upd_ne (at_ne e hc exo_own), upd_ne (ne_of_none hc hnd)]; exact hc) (fun c xs hc => by rw [upd_ne (at_ne e hc exo_tup), upd_ne (ne_of_none hc hnd)]; exact hc)
def spI1 (C : Addr) (n1 : Str) : Sp := fun vs H Q _ => ∃ (a : Addr) (y : V), vs = [.ref a, y] ∧ H a = some (exo a C none) ∧ ∀ dx, H dx = none → dx ≠ a → Q .non (upd (upd H dx (exd dx [(n1, y)])) a (exo a C (some dx)))
theorem init1 {P : Program} {w : World} {K : PySem.W.Frag} {mg : Str → Option Value} {base : Heap} {CX : CXT} {k : Nat} {C fI : Addr} {qual n1 : Str} {params : Arguments} {scope : Scope} {fd : FuncData} {p0 p1 p2 p3 p4 q1 q2 q3 q4 q5 : Pos} {ar : Arg}
    (T : OexC K C) (S : SupF P K C fI qual params [.Expr (supX p0 p1 p2 p3 [.Name n1 q1]) p4, .Assign [.Attribute (.Name "self" q2) n1 q3] (.Name n1 q4) q5] scope fd)
    (hmg : ∀ (h : Heap), K.In h → h.Ns mainGlobals mg → mg "super" = none) (hno : PySem.W.findIn K (.ref C) n1 = some none)
    (hp : (params.posonlyargs ++ params.args).head? = some ar) (har : ar.arg = "self") (hk : scope.kind = .function) (hco : scope.isCoroutine = false) (hgen : scope.isGenerator = false)
    (hcell : ∀ x ∈ scope.names, x.2 ≠ .cell) (hls : scope.names.lookup ("self" : Str) = some .local) (hl1 : scope.names.lookup n1 = some .local)
    (hks : scope.names.lookup ("super" : Str) = some .globalImplicit) (hkc : scope.names.lookup ("__class__" : Str) = some .free) (hne : n1 ≠ "self") (hnd : (n1 == ("__debug__" : Str)) = false)
    (hev : SupEv qual params [.Expr (supX p0 p1 p2 p3 [.Name n1 q1]) p4, .Assign [.Attribute (.Name "self" q2) n1 q3] (.Name n1 q4) q5] scope p0 p1 p2 p3 [.Name n1 q1]) :
    FnOk P w K mg base CX (k + 1) fI fd ["self", n1] (spI1 C n1) := by
  obtain ⟨⟨oc, od, osl, x, dV, kV, doc, pm, an, cda, ct, cc, rfl, fo, hcd, ⟨ccl, cdd, vs0, ccs, file, tf, hcode, hvs, hfile⟩, cl, cld, csl, hcl0⟩, hself, hsup, hisV, hopq, hnos, htop⟩ := S
  refine ⟨fun vs H Q E ⟨a, y, e, _⟩ => by rw [e]; rfl, fun A outer s H args us vs Q E hr e0 hb r hsp => ?_⟩
  obtain ⟨a, y, rfl, ea, hq⟩ := hsp
  cases r with
  | cons ra rr =>
    cases rr with
    | cons r1 rr =>
      cases rr
      rename_i u1
      obtain rfl := ra
      have KX : K.In s.heap := e0.mod.kin.keeps fun b o z => (e0.bs b o z).1
      have lim : s.heap.NoLimit := e0.mod.nolimit.keeps fun b o z => (e0.bs b o z).1
      obtain ⟨t0, ho⟩ := exo_at e0.hok ea
      obtain ⟨mb, hb1, hb2⟩ := e0.mod.blt
      have bk : ∀ b o, base.get? b = some o → s.heap.get? b = some o := fun b o z => (e0.bs b o z).1
      obtain ⟨nm, q, N, bs, bm, sn, sub, ab, col, dd, k0, k1, k2, k3, k5, hC, hbm⟩ := T.cls
      have hcl : PySem.W.clsIn K C = some { name := nm, bases := bs, mro := .ref C :: bm, ns := N, qualname := q, hasDict := true, slotNames := sn, subclasses := sub, abstract := ab, collection := col, hasDel := false } := by unfold PySem.W.clsIn; rw [hC] <;> rfl
      refine ks_codeAny_call_defAt (fd := PySem.W.fnX x qual params _ scope [("__class__", cc)] dV kV doc pm an (.ref cda) ct) (binds := (["self", n1] : List Str).zip [.ref a, u1]) hr.depth (KX _ _ fo) rfl lim (PySem.W.codeRec_of KX hcd) rfl hb hcell (fun z hz => ?_) (fun h₀ hns hkeep => ?_) hco hgen hk
      · simp at hz
        rcases hz with rfl | rfl
        · exact hls
        · exact hl1
      have m1 : ((["self", n1] : List Str).zip [Value.ref a, u1]).reverse.lookup ("self" : Str) = some (.ref a) := by
        have e1 : (("self" : Str) == n1) = false := by simpa using fun z => hne z.symm
        simp [List.lookup, e1]
      have m2 : ((["self", n1] : List Str).zip [Value.ref a, u1]).reverse.lookup n1 = some u1 := by simp [List.lookup]
      generalize hmm : (fun x => ((["self", n1] : List Str).zip [Value.ref a, u1]).reverse.lookup x) = m at hns
      have m1' : m "self" = some (.ref a) := by rw [← hmm]; exact m1
      have m2' : m n1 = some u1 := by rw [← hmm]; exact m2
      have K0 : K.In h₀ := KX.keeps hkeep
      obtain ⟨pl, hpl⟩ := hev x dV kV doc pm an cda ct cc s.heap.objs.size fI
      have ho0 := hkeep _ _ ho
      have G0 : h₀.Ns mainGlobals mg := e0.mod.glob.keeps fun b o z => hkeep _ _ (bk _ _ z)
      refine ks_wpAt_execs_cons (ks_wpAt_Expr_any (sup_call (us := [u1]) K0 T fo hcode hvs hfile hcl0 hself hsup hisV hopq G0 (hmg h₀ K0 G0) (hb1.keeps fun b o z => hkeep _ _ (bk _ _ z)) ((hb2 _ (by decide)).trans (by kernel_rfl)) htop hp hns (by rw [har]; exact m1') (by rw [har]; exact hls) hk hks hkc ho0 (by rw [sizeLine_eq]; exact (by decide : 1 ≤ 16777216)) (fun s' Q' k' q' => ?_) rfl rfl hpl (fun h' t1 tk' k1 hx1 => ?_)) (by unfold interactive; simp [callEnv, newEnv, hk]) (by rfl))
      · exact Calls.spliced_cons (wpAny_Name (wpAny_loadName_local hk hl1 (hns.keeps k') m2' (Calls.spliced_nil q')) hnd)
      · have aL : a ≠ s.heap.objs.size := Nat.ne_of_lt (Heap.lt_size ho)
        have nsL : h'.Ns s.heap.objs.size m := by
          obtain ⟨o, es, ep, hL, rr⟩ := hns
          exact ⟨o, es, ep, k1 _ _ (Ne.symm aL) hL, rr⟩
        have K1 : K.In h' := fun b o z => by
          refine k1 b o (fun zb => ?_) (K0 _ _ z)
          have h1 := (e0.bs b o (e0.mod.kin _ _ z)).2
          rw [zb, ea] at h1
          cases h1
        refine ks_wpAt_execs_cons (ks_wpAt_Assign_Attr (wpAt_of_wpAny (wpAny_Name (wpAny_loadName_local hk hl1 nsL m2' (wpAny_Name (wpAny_loadName_local hk hls nsL m1' ?_) (by decide))) hnd)) rfl)
        refine PySem.W.set_plain K1 (ox := HandSPX.excO C t1) (od := none) ⟨hx1, rfl, rfl, trivial⟩ T.sa ?_
        refine HandSPX.exc_osa K1 hx1 hcl (show HandSPX.refsVE (.ref C :: bm) = true from hbm) rfl hno (fun h2 tk2 dx k2 dn dne hx2 hn2 => ?_)
        refine wpAt_of_wpAny (wpAny_of_eq (show execs [] _ = pure .next from rfl) ?_)
        exact ce_of e0.hok ea (fun b o hb z => k2 b o hb (k1 b o hb (hkeep b o z))) (Nat.le_trans (Nat.le_of_lt nsL.lt) dn) dne hx2 hn2 (relO_put (fs := []) r1 fun _ => True.intro) rfl e0.bare hq
end Rf

set_option maxHeartbeats 2000000
namespace Rf
open PySem PySem.Spec PyProof.Rows L2
def sRaise (x : Str) (ns : List Str) (ms : M (List Val)) : M Flo := fun s => (ms s).bind fun vs s1 => match frzs s1 vs with
  | some (ds, s2) => if ds.length = ns.length then .ex ⟨x, ns.zip ds⟩ s2.am else .bad
  | none => .bad
theorem ROL.bindF {B : Bs} {W : WX} {σ : L2.St} {z : Fz} {H : Hp} {s : S} {r : R (List Val)} {f : List Val → S → R Flo} {D : Ends} (h : SO B W σ z H s (r.bind f) D) :
    ROL B W σ z H s r (fun vs H1 => ∃ z1 s1 vals, Stp B σ z H s z1 H1 s1 ∧ VOks B σ H z1 H1 s1 vs vals ∧ SO B W σ z H s (f vals s1) D) := by
  cases r with
  | ok val s' => exact fun z' H' v x y => ⟨z', s', val, x, y, h⟩
  | ex e am => exact SOx.toE h
  | bad => exact h
theorem AmbOk.laid {z : Fz} {H : Hp} {p : Addr} {o : HO} (hp : H p = none) : ∀ {am : Option Src}, AmbOk z H am → AmbOk z (upd H p o) am
  | none, h => h
  | some s, ⟨a, c, h1, h2, h3, h4, h5, h6⟩ => ⟨a, c, h1, h2, by rw [upd_ne (ne_of_none h3 hp)]; exact h3, by rw [upd_ne (ne_of_none h4 hp)]; exact h4, h5, h6⟩
section
variable {X : Cx} {W : WX} {C fI : Addr} {x n1 : Str} {k : Nat} {fd : FuncData} {e : Expr} {es : List Expr} {m : M (List Val)} {p pos pos' : Pos}
theorem upd_end {H1 : Hp} {a C d : Addr} {fs : List (Str × V)} (ha : H1 a = none) (hda : d ≠ a) : upd (del (upd (upd (upd H1 a (exo a C none)) d (exd d fs)) a (exo a C (some d))) a) d (.xd fs) = upd H1 d (.xd fs) := by
  funext b
  by_cases h1 : b = d
  · rw [h1, upd_same, upd_same]
  · rw [upd_ne h1, upd_ne h1]
    by_cases h2 : b = a
    · rw [h2, del_same, ha]
    · rw [del_ne h2, upd_ne h2, upd_ne h1, upd_ne h2]
theorem s_raise1 (hc : X.calm = true) (tk : Takes X W) (T : OexC X.K C) (iC : PySem.W.findIn X.K (.ref C) "__init__" = some (some (.ref fI))) (tI : PySem.W.typeIn X.K (.ref fI) = some (.type "function"))
    (F1 : FnOk X.prog X.w X.K X.mg X.base CX0 k fI fd ["self", n1] (spI1 C n1)) (hr : Room (k + 1) X.A) (hb : Binds X.K fd ["self", n1] []) (hg : Gl X x) (hm : X.mg x = some (.ref C)) (ha : PA X (e :: es) (rdA (bs X) W m))
    (hdb : (x == ("__debug__" : Str)) = false) (he : starEach (e :: es) X.env = (false, eval e X.env) :: starEach es X.env) (hpl : (backTo pos (starEach es X.env)).any (·.1) = false) :
    PS X (.Raise (some (.Call (.Name x p) (e :: es) [] pos)) none pos') (rdS (bs X) W (sRaise x [n1] m)) := by
  refine ps_weak (ps_raise hc tk (pmk_oex T iC tI F1 hr hb .nil pass0 hg hm ha hdb he hpl)) fun D σ H ⟨z, s, g, h⟩ => ?_
  refine ⟨z, s, g, (ROL.bindF h).mono fun vs H1 ⟨z1, s1, vals, st1, v1, h1⟩ => ?_⟩
  cases q : frzs s1 vals with
  | none => rw [q] at h1; exact h1.elim
  | some y =>
    obtain ⟨ds, s2⟩ := y
    rw [q] at h1
    obtain ⟨z2, st2, r, _⟩ := frzs_ok st1 v1 q
    simp only at h1
    split at h1
    · rename_i hl
      cases r with
      | nil => cases hl
      | @cons v _ d _ r1 rr =>
        cases rr with
        | cons _ _ => cases hl
        | nil =>
          refine ⟨by simp, fun a hn => ⟨a, v, rfl, upd_same, fun dx hdx hne => ⟨rfl, dx, [(n1, v)], upd_same, by rw [upd_ne hne, upd_same], ?_, ?_⟩⟩⟩
          · rw [upd_ne hne] at hdx; exact hdx
          · rw [upd_ne hne] at hdx
            rw [upd_end hn hne]
            refine h1 z2 _ _ _ σ rfl (st2.ext.other (st2.ext.there _ hdx)) (st2.good.amb.laid hdx) ⟨C, dx, [(n1, v)], rfl, rfl, hm, upd_same, fun f y hy => ?_⟩
            have hy' : ([(n1, d)] : List (Str × Dt)).lookup f = some y := hy
            by_cases hf : f = n1
            · subst hf
              have e1 : d = y := by simpa [List.lookup] using hy'
              exact ⟨v, by simp [List.lookup], by rw [← e1]; exact r1⟩
            · have e1 : (f == n1) = false := by simpa using hf
              simp [List.lookup, e1] at hy'
    · exact h1.elim
end
inductive Hi where
  | s (x : Str)
  | f (x : Str)
def hiD (fs : List (Str × Dt)) : Hi → Option Dt
  | .s x => some (.str x)
  | .f n => match fs.lookup n with
    | some d => if flatD d then some d else none
    | none => none
def hiDs (fs : List (Str × Dt)) : List Hi → Option (List Dt)
  | [] => some []
  | i :: r => match hiD fs i, hiDs fs r with
    | some d, some ds => some (d :: ds)
    | _, _ => none
def sTry (x : Str) (its : List Hi) (body : M Flo) : M Flo := fun s => match body s with
  | .ex e am => if e.cls = x then (match hiDs e.fs its with
    | some ds => if ds.length ≤ sizeLine then .ok (.rt (.st (.tuple ds))) ⟨List.replicate s.env.length .no, am⟩ else .bad
    | none => .bad) else .bad
  | r => r
theorem Rep.flatz {B : Bs} {z z' : Fz} {v : V} {d : Dt} (r : Rep B z v d) (h : flatD d = true) : Rep B z' v d := by
  cases r with
  | non => exact .non
  | bl b => exact .bl b
  | int i => exact .int i
  | str x => exact .str x
  | _ => cases h
section
variable {X : Cx} {W : WX} {C : Addr} {i : Nat}
def tHi (a : Addr) (cls : Value) (d : Option Addr) (C : Addr) (i : Nat) : List Hi → TA
  | [] => tNil
  | .s x :: r => tCons (fun _ H Q => Q (.str x) H) (tHi a cls d C i r)
  | .f n :: r => tCons (tXf a cls d C n (tVar i)) (tHi a cls d C i r)
theorem tHi_ok {B : Bs} {z z' : Fz} {H : Hp} {a dd : Addr} {fs : List (Str × V)} {efs : List (Str × Dt)} {σ : L2.St} (hσ : σ[i]? = some (some (.ref a))) (hd : H dd = some (.xd fs)) (hf : ∀ f x, efs.lookup f = some x → ∃ v, fs.lookup f = some v ∧ Rep B z v x) :
    ∀ {its : List Hi} {ds : List Dt} {Q : List V → Hp → Prop}, hiDs efs its = some ds → (∀ vs, Reps B z' vs ds → Q vs H) → tHi a (.ref C) (some dd) C i its σ H Q
  | [], ds, Q, e, q => by cases e; exact q [] .nil
  | it :: r, ds, Q, e, q => by
    simp only [hiDs] at e
    cases e1 : hiD efs it with
    | none => rw [e1] at e; cases e
    | some d =>
      cases e2 : hiDs efs r with
      | none => rw [e1, e2] at e; cases e
      | some ds' =>
        rw [e1, e2] at e
        cases e
        cases it with
        | s x =>
          cases e1
          exact tHi_ok (its := r) hσ hd hf e2 fun vs rs => q _ (.cons (.str x) rs)
        | f n =>
          simp only [hiD] at e1
          cases e3 : efs.lookup n with
          | none => rw [e3] at e1; cases e1
          | some x =>
            rw [e3] at e1
            simp only at e1
            split at e1
            · rename_i hfl
              cases e1
              obtain ⟨v, l, rv⟩ := hf n _ e3
              exact ⟨.ref a, hσ, rfl, rfl, dd, fs, v, rfl, hd, l, tHi_ok (its := r) hσ hd hf e2 fun vs rs => q _ (.cons (rv.flatz hfl) rs)⟩
            · cases e1
theorem s_try {x n : Str} {its : List Hi} {elts : List Expr} {body : List Stmt} {mb : M Flo} {np pos pos' pt pr : Pos} {kt : Nat} (hs : X.stack = X.env :: X.outer) (hf : X.env.frame = some X.env.locals) (hN : X.N.Nodup) (hi : X.N[i]? = some n) (hln : X.env.kindOf n = some .local) (hc : Names X x (.ref C)) (hm : X.mg x = some (.ref C))
    (hex : PySem.W.exmOne X.K (.ref C) (.ref C) = some true) (tk : Takes X W)
    (hb : ∀ (W : WX) (pn : List (Addr × Obj)) (xe : Value → Shared → Prop), Takes (X.tr pn xe) W → PassesOwn (model X.prog X.w) X.A X.env xe → PSs (X.tr pn xe) body (rdS (bs X) W mb))
    (hsu : ∀ (a : Addr) (oe : Obj) (cls : Value) (d : Option Addr) (pn : List (Addr × Obj)), Zc cls d oe → (∃ vs, oe.data = .fields vs) → PA (X.suite a ((a, oe) :: pn)) elts (tHi a cls d C i its)) :
    PS X (.Try body [.ExceptHandler (some (.Name x np)) (some n) [.Return (some (.Tuple elts kt pt)) pr] pos'] [] [] pos) (rdS (bs X) W (sTry x its mb)) := by
  have iN : i < X.N.length := by
    rcases Nat.lt_or_ge i X.N.length with h | h
    · exact h
    · rw [List.getElem?_eq_none h] at hi; cases hi
  refine ⟨fun pins s σ H D I h => (ps_try_as (Wout := W) hs hf hN hi hln hc tk hb (fun a oe cls d pn hz hfv => pss_one (ps_ret (pe_tupF (hsu a oe cls d pn hz hfv))))).run pins s σ H D I ?_⟩
  obtain ⟨z, t, g, h⟩ := h
  have hσl : σ.length = X.N.length := I.len
  refine ⟨z, t, g, ?_⟩
  unfold sTry at h
  cases q : mb t with
  | bad => rw [q] at h; exact h.elim
  | ok fl s' => rw [q] at h; cases fl <;> exact h
  | ex e am =>
    rw [q] at h
    simp only at h
    split at h
    · rename_i hcls
      cases q2 : hiDs e.fs its with
      | none => rw [q2] at h; exact h.elim
      | some ds =>
        rw [q2] at h
        simp only at h
        split at h
        · rename_i hsz
          intro z' H' cls d σ' hl ext amb ⟨C', dx, fs, ec, ed, em, ef, eb⟩
          have eC : C' = C := by
            have em' : X.mg e.cls = some (.ref C') := em
            rw [hcls, hm] at em'
            cases em'; rfl
          subst eC
          subst ec
          subst ed
          refine ⟨true, hex, fun _ a ha => ?_, fun z => by cases z⟩
          have hσ : (σ'.set i (some (V.ref a)))[i]? = some (some (V.ref a)) := List.getElem?_set_self (by omega)
          refine tHi_ok (z' := ⟨z.F, z'.sa⟩) hσ ef eb q2 fun vs rs => ⟨by rw [rs.length]; exact hsz, ?_⟩
          have nown : ∀ b o, z.F b = some o → ¬ Own σ t.env z b := fun b o hb hown => by
            rcases hown with ⟨a1, c1, e1, e2⟩ | ⟨j, hj⟩
            · have ga := g.amb
              cases hamb : t.am with
              | none => rw [hamb] at ga; rw [show z.sa = none from ga] at e1; cases e1
              | some sr =>
                rw [hamb] at ga
                obtain ⟨a2, c2, f1, f2, f3, f4, f5, f6⟩ := ga
                rw [e1] at f1
                cases f1
                rcases e2 with rfl | rfl
                · rw [f5] at hb; cases hb
                · rw [f6] at hb; cases hb
            · obtain ⟨d', k1, k2⟩ := hj
              obtain ⟨p', ho, k3, k4, k5, k6⟩ := g.slots j _ _ k1 k2
              cases k3
              rw [k6] at hb; cases hb
          have sub' : Sub ⟨z.F, z'.sa⟩ H' := fun b o hb => ext.keep b o (g.sub b o hb) (nown b o hb)
          have amb' : AmbOk ⟨z.F, z'.sa⟩ H' am := by
            cases am with
            | none => exact amb
            | some sr =>
              obtain ⟨a2, c2, f1, f2, f3, f4, f5, f6⟩ := amb
              have nz : ∀ b, z'.F b = none → z.F b = none := fun b hb => by
                cases hz : z.F b with
                | none => rfl
                | some o => rw [ext.le.F b o hz] at hb; cases hb
              exact ⟨a2, c2, f1, f2, f3, f4, nz _ f5, nz _ f6⟩
          have noslot : ∀ (j : Nat) (p : Addr), ¬ SlotAt (σ'.set i (some (V.ref a))) (List.replicate t.env.length Slot.no) j p := fun j p ⟨d', k1, _⟩ => by
            rw [List.getElem?_replicate] at k1
            split at k1 <;> cases k1
          have slot' : ∀ (j : Nat) (y : Rf.Slot) (o : Option V), (List.replicate t.env.length Slot.no)[j]? = some y → (σ'.set i (some (V.ref a)))[j]? = some o → SlotOk (bs X) ⟨z.F, z'.sa⟩ H' y o := fun j y o k1 k2 => by
            rw [List.getElem?_replicate] at k1
            split at k1
            · cases k1; trivial
            · cases k1
          have g3 : Good (bs X) ⟨z.F, z'.sa⟩ H' (σ'.set i (some (V.ref a))) ⟨List.replicate t.env.length .no, am⟩ := ⟨by rw [List.length_replicate, List.length_set, hl]; exact g.len, sub', slot', fun j k p h1 _ => (noslot j p h1).elim, amb', fun j p h1 => (noslot j p h1).elim⟩
          have st3 : StpS (bs X) σ z H t (σ'.set i (some (V.ref a))) ⟨z.F, z'.sa⟩ H' ⟨List.replicate t.env.length .no, am⟩ := ⟨⟨ext.keep, ext.there, ⟨fun _ _ h => h, ext.le.sa⟩, fun _ _ h => .inl h, ext.newS⟩, g3, fun p' y => by
            rcases y with ⟨a1, c1, e1, e2⟩ | ⟨j, hj⟩
            · rcases ext.newS a1 c1 e1 with y | ⟨y1, y2⟩
              · exact .inl (.inl ⟨a1, c1, y, e2⟩)
              · rcases e2 with rfl | rfl
                · exact .inr y1
                · exact .inr y2
            · exact (noslot j p' hj).elim, by rw [List.length_set]; exact hl⟩
          have h3 : RO (bs X) W (σ'.set i (some (V.ref a))) ⟨z.F, z'.sa⟩ H' ⟨List.replicate t.env.length .no, am⟩ (.ok (.st (.tuple ds)) ⟨List.replicate t.env.length .no, am⟩) D.rt := fun z4 H4 v st4 vk => h _ z4 H4 v (st3.trans st4.toS) (vk.base st3.ext.there)
          exact h3.tup g3 rs
        · exact h.elim
    · exact h.elim
end
end Rf

set_option maxHeartbeats 2000000
namespace Rf
open PySem PySem.Spec PyProof.Rows L2
def eCallV (tab : Str → Option FnD) (i : Nat) (ms : M (List Val)) : M Val := fun s => match s.env[i]? with
  | some (.fz (.dict [(.none, .str x)])) => (match tab x with
    | some g => eFn g ms s
    | none => .bad)
  | _ => .bad
theorem kreps_head {B : Bs} {z : Fz} {kvs : List (Key × V)} {L : List (Dt × Dt)} (h : KReps B z kvs L) : ∀ k0 d0 ds, L = (k0, d0) :: ds → ∃ k, kD k = k0 := by
  cases h with
  | nil => intro _ _ _ e; cases e
  | cons h3 h4 => intro k0 d0 ds e; exact ⟨_, (Prod.mk.inj (List.cons.inj e).1).1⟩
theorem slot_fn {B : Bs} {z : Fz} {H : Hp} {σ : L2.St} {s : S} {i : Nat} {x : Str} (g : Good B z H σ s) (h : s.env[i]? = some (.fz (.dict [(.none, .str x)]))) : ∃ f, σ[i]? = some (some (.ref f)) ∧ B.mg x = some (.ref f) := by
  have hi : i < σ.length := by
    rw [← g.len]
    rcases Nat.lt_or_ge i s.env.length with q | q
    · exact q
    · rw [List.getElem?_eq_none q] at h; cases h
  have e : σ[i]? = some σ[i] := by simp [hi]
  obtain ⟨v, e1, r⟩ := g.slots i _ _ h e
  rw [e, e1]
  cases r with
  | fn e2 => exact ⟨_, rfl, e2⟩
  | dic h1 h2 =>
    obtain ⟨k, ek⟩ := kreps_head h2 _ _ _ rfl
    exact (kD_ne_none ek).elim
section
variable {X : Cx} {W : WX} {k n i : Nat} {x y : Str} {p pos : Pos} {e : Expr} {es : List Expr} {g : FnD} {ms : M (List Val)}
theorem e_glofn {f : Addr} (hg : Gl X x) (hm : X.mg x = some (.ref f)) (hd : (x == ("__debug__" : Str)) = false) : PE X (.Name x pos) (rdE (bs X) W (eC (fnD x))) :=
  pe_weak (pe_glob hg hm (v := .ref f) rfl hd) fun σ H Q ⟨z, s, gd, h⟩ => h z H (.ref f) (.refl gd) ⟨.fn hm, fun _ _ e => by cases e⟩
theorem e_callV {tab : Str → Option FnD} (hT : ∀ x g, tab x = some g → ∃ j, j ≤ k ∧ Cal X.prog X.w X.K X.mg X.base j x n g) (hgd : X.A.guards = some []) (hr : Room k X.A) (hN : X.N[i]? = some y) (hv : Vis X.env.scope y) (tk : Takes X W)
    (ha : PA X (e :: es) (rdA (bs X) W ms)) (hl : Many n ms) (hdb : (y == ("__debug__" : Str)) = false) (hcd : (y == ("__classdict__" : Str)) = false) (he : starEach (e :: es) X.env = (false, eval e X.env) :: starEach es X.env) (hpl : (backTo pos (starEach es X.env)).any (·.1) = false) :
    PE X (.Call (.Name y p) (e :: es) [] pos) (rdE (bs X) W (eCallV tab i ms)) := by
  refine ⟨fun pins s σ H Q I h => ?_⟩
  obtain ⟨z, t, gd, h⟩ := h
  unfold eCallV at h
  split at h
  · rename_i x hx
    cases q : tab x with
    | none => rw [q] at h; exact h.elim
    | some g =>
      rw [q] at h
      simp only at h
      obtain ⟨j, hj, C⟩ := hT x g q
      obtain ⟨f, fd, ps, _, F, hm, hk, hb⟩ := C.ex
      obtain ⟨f', e1, e2⟩ := slot_fn gd hx
      have ef : f' = f := by
        have e2' : X.mg x = some (.ref f') := e2
        rw [hm] at e2'
        cases e2'; rfl
      subst ef
      have ht := rd_fn hl σ H Q ⟨z, t, gd, h⟩
      refine wpAny_Call_Name_kw (thn ((pe_var (pos := p) hN hv hdb hcd).run pins s σ H (fun v H1 => v = .ref f' ∧ H1 = H) I ⟨.ref f', e1, rfl, rfl⟩) fun u s1 ⟨v, H1, I1, r1, q1⟩ => ?_)
      obtain ⟨rfl, rfl⟩ := q1
      cases r1
      refine PySem.W.callWith_K (h₀ := X.base) I.ok.mod.kin hk (thn (ha.run pos pins s1 σ _ _ I1 ht) fun us s2 ⟨vs, H2, I2, r, q⟩ => ⟨I2.kIn, ?_⟩) he hpl
      exact run_fnG F hgd (hr.mono hj) hb (passAt tk σ) I2 r q
  · exact h.elim
end
end Rf

set_option maxHeartbeats 2000000
namespace Rf
open PySem PySem.Spec PyProof.Rows L2
structure Err1 (P : Program) (w : World) (K : PySem.W.Frag) (mg : Str → Option Value) (x n1 : Str) : Prop where
  ex : ∃ C fI fd, mg x = some (.ref C) ∧ OexC K C ∧ PySem.W.findIn K (.ref C) "__init__" = some (some (.ref fI)) ∧ PySem.W.typeIn K (.ref fI) = some (.type "function") ∧
    (∀ base : Heap, FnOk P w K mg base CX0 1 fI fd ["self", n1] (spI1 C n1)) ∧ Binds K fd ["self", n1] [] ∧ PySem.W.exmOne K (.ref C) (.ref C) = some true ∧ XfC K C ∧ PySem.W.findIn K (.ref C) n1 = some none
def oexC (K : PySem.W.Frag) (C : Addr) : Bool := match K.lookup C with
  | some ⟨.type "type", _, .cls cd, sl⟩ => (match cd.mro, sl.toList with
    | .ref C' :: bm, [_, _, _, _, some (.builtin n), _] => C' == C && n == "ValueError.__new__" && !cd.hasDel && cd.hasDict && HandSPX.refsVE bm
    | _, _ => false)
  | _ => false
theorem oexC_ok {K : PySem.W.Frag} {C : Addr} (q : oexC K C = true) : ∃ nm q N bs bm sn sub ab col dd k0 k1 k2 k3 k5, K.lookup C = some (excClassObj nm q C N bs bm true sn sub ab col dd k0 k1 k2 k3 k5 "ValueError.__new__") ∧ HandSPX.refsVE bm = true := by
  unfold oexC at q
  split at q
  · rename_i dd cd sl ho
    split at q
    · rename_i C' bm k0 k1 k2 k3 n k5 e1 e2
      simp only [Bool.and_eq_true, beq_iff_eq, Bool.not_eq_true'] at q
      obtain ⟨⟨⟨⟨rfl, rfl⟩, f1⟩, f2⟩, f3⟩ := q
      obtain ⟨nm, bs, mro, ns, qn, hd, sn, sub, ab, col, dl⟩ := cd
      dsimp only at e1 f1 f2
      subst e1 f1 f2
      have es : sl = #[k0, k1, k2, k3, some (.builtin "ValueError.__new__"), k5] := by
        obtain ⟨l⟩ := sl
        simp only at e2
        rw [e2]
      subst es
      exact ⟨nm, qn, ns, bs, bm, sn, sub, ab, col, dd, k0, k1, k2, k3, k5, ho, f3⟩
    · cases q
  · cases q
def oexB (K : PySem.W.Frag) (C : Addr) : Bool := oexC K C && (decide (PySem.W.findIn K (.ref C) "__setattr__" = some (some (.builtin "object.__setattr__"))) && (decide (PySem.W.subIn K (.ref C) (.type "BaseException") = some true) && (decide (PySem.W.typeIn K (.ref C) = some (.type "type")) && PySem.W.keepIn K (.ref C))))
theorem oexB_ok {K : PySem.W.Frag} {C : Addr} (h : oexB K C = true) : OexC K C := by
  unfold oexB at h
  obtain ⟨h1, h⟩ := Bool.and_eq_true_iff.mp h
  obtain ⟨h2, h⟩ := Bool.and_eq_true_iff.mp h
  obtain ⟨h3, h⟩ := Bool.and_eq_true_iff.mp h
  obtain ⟨h4, h5⟩ := Bool.and_eq_true_iff.mp h
  exact ⟨oexC_ok h1, of_decide_eq_true h2, of_decide_eq_true h3, of_decide_eq_true h4, h5⟩
structure ErrD where
  x : Str
  n1 : Str
  qual : Str
  params : Arguments
  body : List Stmt
  scope : Scope
  file : Str
abbrev ErrW : Type := Option (Str × Arguments × FuncBody × Scope × Addr × Addr × Bool)
def isNonV : Value → Bool
  | .none => true
  | _ => false
theorem isNonV_ok {v : Value} (h : isNonV v = true) : v = .none := by
  cases v <;> first | rfl | cases h
def eC_ (K : PySem.W.Frag) (e : ErrD) : Addr := He.ga K e.x
def eI_ (K : PySem.W.Frag) (e : ErrD) : Addr := He.ma K (eC_ K e) "__init__"
def errW (K : PySem.W.Frag) (e : ErrD) : ErrW := match K.lookup (eI_ K e) with
  | some ⟨_, _, .func fd, _⟩ => some (fd.qualname, fd.params, fd.body, fd.scope, fd.globals, fd.builtins, isNonV fd.defaults)
  | _ => none
def ErrD.val (e : ErrD) : ErrW := some (e.qual, e.params, .stmts e.body, e.scope, mainGlobals, builtinsNs, true)
def errF (K : PySem.W.Frag) (e : ErrD) : Bool := match K.lookup (eI_ K e) with
  | some ⟨_, _, .func fd, _⟩ => (match fd.closure, fd.code with
    | [(nm, cc)], .ref cda => nm == "__class__" && (PySem.W.codeIn K (.ref cda) e.qual && ((match K.lookup cda with
      | some ⟨_, _, .fields vs, _⟩ => (match (vs[2]? : Option Value) with
        | some (Value.str f _) => decide (e.file = f)
        | _ => false)
      | _ => false) && (match K.lookup cc with
      | some ⟨_, _, .cell (some (.ref D)), _⟩ => D == eC_ K e
      | _ => false)))
    | _, _ => false)
  | _ => false
def errB (K : PySem.W.Frag) (e : ErrD) : Bool := He.eqO (PySem.W.nsIn K mainGlobals e.x) (some (some (.ref (eC_ K e)))) && (oexB K (eC_ K e) && (He.eqO (PySem.W.findIn K (.ref (eC_ K e)) "__init__") (some (some (.ref (eI_ K e)))) &&
  (decide (PySem.W.typeIn K (.ref (eI_ K e)) = some (.type "function")) && (errF K e && (decide (PySem.W.mroIn K (eC_ K e) (.ref (eC_ K e)) = some true) && (decide (PySem.W.ks_superIn K (eC_ K e) (eC_ K e) "__init__" = some (some (.builtin "ValueError.__init__"))) &&
  (decide (PySem.W.subIn K (.ref (eC_ K e)) (.type "ValueError") = some true) && (He.eqO (PySem.W.nsIn K cStatics "thirdparty.any") (some none) && (He.eqO (PySem.W.nsIn K mainGlobals "super") (some none) &&
  (decide (PySem.W.exmOne K (.ref (eC_ K e)) (.ref (eC_ K e)) = some true) && (xfB K (eC_ K e) && He.eqO (PySem.W.findIn K (.ref (eC_ K e)) e.n1) (some none))))))))))))
theorem err_ok {P : Program} {w : World} {K : PySem.W.Frag} {mg : Str → Option Value} {e : ErrD} {p0 p1 p2 p3 p4 q1 q2 q3 q4 q5 : Pos} {ar : Arg}
    {h : Heap} (KX : K.In h) (G : h.Ns mainGlobals mg) (hv : errW K e = e.val) (hb : errB K e = true) (hbody : e.body = [.Expr (supX p0 p1 p2 p3 [.Name e.n1 q1]) p4, .Assign [.Attribute (.Name "self" q2) e.n1 q3] (.Name e.n1 q4) q5])
    (hfile : P.main.file = e.file) (htop : (P.main.scope.names.lookup ("super" : Str)).isSome = false)
    (hp : (e.params.posonlyargs ++ e.params.args).head? = some ar) (har : ar.arg = "self") (hk : e.scope.kind = .function) (hco : e.scope.isCoroutine = false) (hgen : e.scope.isGenerator = false)
    (hcell : ∀ x ∈ e.scope.names, x.2 ≠ .cell) (hls : e.scope.names.lookup ("self" : Str) = some .local) (hl1 : e.scope.names.lookup e.n1 = some .local)
    (hks : e.scope.names.lookup ("super" : Str) = some .globalImplicit) (hkc : e.scope.names.lookup ("__class__" : Str) = some .free) (hne : e.n1 ≠ "self") (hnd : (e.n1 == ("__debug__" : Str)) = false)
    (hev : SupEv e.qual e.params e.body e.scope p0 p1 p2 p3 [.Name e.n1 q1])
    (hbi : ∀ (x : Str) (kV doc pm : Value) (an : Option Addr) (cda : Addr) (ct : Value) (cc : Addr) (us : List Value), us.length = 2 → bindArgs (PySem.W.fnX x e.qual e.params e.body e.scope [("__class__", cc)] .none kV doc pm an (.ref cda) ct) ⟨us, []⟩ = pure ((["self", e.n1] : List Str).zip us)) :
    Err1 P w K mg e.x e.n1 := by
  unfold errB at hb
  obtain ⟨hx0, hb⟩ := Bool.and_eq_true_iff.mp hb
  have hx : mg e.x = some (.ref (eC_ K e)) := PySem.W.mg_of KX G (He.eqO_ok hx0)
  obtain ⟨h2, hb⟩ := Bool.and_eq_true_iff.mp hb
  obtain ⟨h3, hb⟩ := Bool.and_eq_true_iff.mp hb
  obtain ⟨h4, hb⟩ := Bool.and_eq_true_iff.mp hb
  obtain ⟨h5, hb⟩ := Bool.and_eq_true_iff.mp hb
  obtain ⟨h6, hb⟩ := Bool.and_eq_true_iff.mp hb
  obtain ⟨h7, hb⟩ := Bool.and_eq_true_iff.mp hb
  obtain ⟨h8, hb⟩ := Bool.and_eq_true_iff.mp hb
  obtain ⟨h9, hb⟩ := Bool.and_eq_true_iff.mp hb
  obtain ⟨h10, hb⟩ := Bool.and_eq_true_iff.mp hb
  obtain ⟨h11, hb⟩ := Bool.and_eq_true_iff.mp hb
  obtain ⟨h12, h13⟩ := Bool.and_eq_true_iff.mp hb
  have T := oexB_ok h2
  unfold errF at h5
  unfold errW at hv
  cases q : K.lookup (eI_ K e) with
  | none => rw [q] at h5; cases h5
  | some o =>
    obtain ⟨oc, od, dt, osl⟩ := o
    rw [q] at h5 hv
    cases dt with
    | func fd =>
      obtain ⟨n1, n2, n3, n4, n5, n6, n7, n8, n9, n10, n11, n12, n13, n14, n15⟩ := fd
      have e2 : (some (n2, n3, n4, n5, n6, n15, isNonV n8) : ErrW) = some (e.qual, e.params, .stmts e.body, e.scope, mainGlobals, builtinsNs, true) := hv
      simp only [Option.some.injEq, Prod.mk.injEq] at e2
      obtain ⟨f1, f2, f3, f4, f5, f6, f7⟩ := e2
      have f8 := isNonV_ok f7
      subst f1 f2 f3 f4 f5 f6 f8
      simp only at h5
      split at h5
      · rename_i nm cc cda
        obtain ⟨g1, h5⟩ := Bool.and_eq_true_iff.mp h5
        obtain ⟨g2, h5⟩ := Bool.and_eq_true_iff.mp h5
        obtain ⟨g3, g4⟩ := Bool.and_eq_true_iff.mp h5
        have enm : nm = "__class__" := by simpa using g1
        subst enm
        have k1 : ∃ ccl cdd vs ccs file tf, K.lookup cda = some ⟨ccl, cdd, .fields vs, ccs⟩ ∧ vs[2]? = some (.str file tf) ∧ ((P.main.file : Str) == file) = true := by
          split at g3
          · rename_i ccl cdd vs ccs elk
            split at g3
            · rename_i f tf ev
              refine ⟨ccl, cdd, vs, ccs, f, tf, elk, ev, ?_⟩
              rw [hfile, of_decide_eq_true g3]
              simp
            · cases g3
          · cases g3
        have k2 : ∃ cl cld csl, K.lookup cc = some ⟨cl, cld, .cell (some (.ref (eC_ K e))), csl⟩ := by
          split at g4
          · rename_i cl cld D csl elk
            have eD : D = eC_ K e := by simpa using g4
            exact ⟨cl, cld, csl, by rw [elk, eD]⟩
          · cases g4
        refine ⟨eC_ K e, eI_ K e, PySem.W.fnX n1 e.qual e.params e.body e.scope [("__class__", cc)] .none n9 n10 n11 n12 (.ref cda) n14, hx, T, He.eqO_ok h3, of_decide_eq_true h4, fun base => ?_, fun s us X hl => ?_, of_decide_eq_true h11, xfB_ok h12, He.eqO_ok h13⟩
        · exact init1 (p0 := p0) (p1 := p1) (p2 := p2) (p3 := p3) (p4 := p4) (q1 := q1) (q2 := q2) (q3 := q3) (q4 := q4) (q5 := q5) (k := 0) T ⟨⟨oc, od, osl, n1, .none, n9, n10, n11, n12, cda, n14, cc, by rw [hbody], q, g2, k1, k2⟩, of_decide_eq_true h6, of_decide_eq_true h7, of_decide_eq_true h8, He.eqO_ok h9, He.eqO_ok h10, htop⟩ (fun h X G => PySem.W.mg_none_of X G (He.eqO_ok h10)) (He.eqO_ok h13) hp har hk hco hgen hcell hls hl1 hks hkc hne hnd (by rw [← hbody]; exact hev)
        · rw [List.append_nil] at hl ⊢
          exact .of_eq (hbi n1 n9 n10 n11 n12 cda n14 cc us hl)
      · cases h5
    | _ => cases h5
end Rf
namespace Rf
open PySem PySem.Spec PyProof.Rows L2
def refsS (o : Obj) : List Addr := He.refsD o ++ (match o.data with
  | .func fd => fd.closure.map (·.2)
  | .cell (some v) => He.refV v
  | _ => [])
def growS (g : Addr → Option Obj) (as : List Addr) : List Addr := (as ++ as.flatMap fun a => match g a with
  | some o => refsS o
  | none => []).eraseDups
def asS (g : Addr → Option Obj) : Nat → List Addr
  | 0 => [mainGlobals, cStatics]
  | n + 1 => growS g (asS g n)
abbrev AlS : Type := He.AlD × Bool × List ErrW
def obsS (fa : List He.Fa) (fn : List He.DefD) (es : List ErrD) (K : PySem.W.Frag) : AlS := (He.obsD fa fn K, es.all (fun e => errB K e), es.map fun e => errW K e)
def valS (fn : List He.DefD) (es : List ErrD) : AlS := (He.valD fn, true, es.map ErrD.val)
structure SaysS (fa : List He.Fa) (fn : List He.DefD) (es : List ErrD) (K : PySem.W.Frag) : Prop where
  d : He.SaysD fa fn K
  e : ∀ e ∈ es, errB K e = true ∧ errW K e = e.val
theorem saysS_of {fa : List He.Fa} {fn : List He.DefD} {es : List ErrD} {K : PySem.W.Frag} (h : obsS fa fn es K = valS fn es) : SaysS fa fn es K := by
  have h1 : He.obsD fa fn K = He.valD fn := congrArg (fun z : AlS => z.1) h
  have h2 : es.all (fun e => errB K e) = true := congrArg (fun z : AlS => z.2.1) h
  have h3 : es.map (fun e => errW K e) = es.map ErrD.val := congrArg (fun z : AlS => z.2.2) h
  exact ⟨h1, fun e he => ⟨List.all_eq_true.mp h2 e he, List.map_inj_left.mp h3 e he⟩⟩
def obsSG (n : Nat) (fa : List He.Fa) (fn : List He.DefD) (es : List ErrD) (g : Addr → Option Obj) : AlS := obsS fa fn es (He.frG g (asS g n))
def hookS (n : Nat) (fa : List He.Fa) (fn : List He.DefD) (es : List ErrD) : PySem.W.Hook where
  α := AlS
  obs := fun s => obsSG n fa fn es s.heap.get?
  val := fun _ => valS fn es
  says := fun _ h => ∃ K : PySem.W.Frag, K.In h ∧ SaysS fa fn es K
  of := fun _ _ e => ⟨_, He.frG_in, saysS_of e⟩
  keeps := fun _ _ _ ⟨K, hK, c⟩ k => ⟨K, PySem.W.Frag.In.keeps hK k, c⟩
theorem obsSG_eq {n : Nat} {fa : List He.Fa} {fn : List He.DefD} {es : List ErrD} {g : Addr → Option Obj} {s : Shared} (h : ∀ a, g a = s.heap.get? a) : obsSG n fa fn es g = (hookS n fa fn es).obs s := by
  have e : g = s.heap.get? := funext h
  rw [e] <;> rfl
end Rf

set_option maxHeartbeats 2000000
namespace Rf
open PySem PySem.Spec PyProof.Rows L2
def clsSt (s : Stmt) (j : Nat) : Stmt := match s with
  | .ClassDef _ _ _ body _ _ _ _ _ _ _ => body.getD j (.Pass ⟨0, 0, 0, 0⟩)
  | _ => .Pass ⟨0, 0, 0, 0⟩
section
variable {X : Cx} {W : WX} {x n1 : Str} {e : Expr} {es : List Expr} {m : M (List Val)} {p pos pos' : Pos} {i : Nat}
theorem s_raiseE (hc : X.calm = true) (tk : Takes X W) (E : Err1 X.prog X.w X.K X.mg x n1) (hr : Room 2 X.A) (hg : Gl X x) (ha : PA X (e :: es) (rdA (bs X) W m))
    (hdb : (x == ("__debug__" : Str)) = false) (he : starEach (e :: es) X.env = (false, eval e X.env) :: starEach es X.env) (hpl : (backTo pos (starEach es X.env)).any (·.1) = false) :
    PS X (.Raise (some (.Call (.Name x p) (e :: es) [] pos)) none pos') (rdS (bs X) W (sRaise x [n1] m)) := by
  obtain ⟨C, fI, fd, hm, T, iC, tI, F1, hb, _⟩ := E.ex
  exact s_raise1 hc tk T iC tI (F1 X.base) hr hb hg hm ha hdb he hpl
theorem s_tryE {n : Str} {its : List Hi} {elts : List Expr} {body : List Stmt} {mb : M Flo} {np pt pr : Pos} {kt : Nat} (hs : X.stack = X.env :: X.outer) (hf : X.env.frame = some X.env.locals) (E : Err1 X.prog X.w X.K X.mg x n1) (hN : X.N.Nodup) (hi : X.N[i]? = some n) (hln : X.env.kindOf n = some .local) (hg : Gl X x) (hdb : (x == ("__debug__" : Str)) = false) (tk : Takes X W)
    (hb : ∀ (W : WX) (pn : List (Addr × Obj)) (xe : Value → Shared → Prop), Takes (X.tr pn xe) W → PassesOwn (model X.prog X.w) X.A X.env xe → PSs (X.tr pn xe) body (rdS (bs X) W mb))
    (hsu : ∀ (C : Addr), XfC X.K C → PySem.W.findIn X.K (.ref C) n1 = some none → ∀ (a : Addr) (oe : Obj) (cls : Value) (d : Option Addr) (pn : List (Addr × Obj)), Zc cls d oe → (∃ vs, oe.data = .fields vs) → PA (X.suite a ((a, oe) :: pn)) elts (tHi a cls d C i its)) :
    PS X (.Try body [.ExceptHandler (some (.Name x np)) (some n) [.Return (some (.Tuple elts kt pt)) pr] pos'] [] [] pos) (rdS (bs X) W (sTry x its mb)) := by
  obtain ⟨C, fI, fd, hm, T, iC, tI, F1, hbi, hex, xf, no⟩ := E.ex
  exact s_try hs hf hN hi hln ⟨hg, hdb, .inl hm⟩ hm hex tk hb (hsu C xf no)
theorem e_glofnC {P : Program} {k n : Nat} {g : FnD} (C : Cal X.prog X.w X.K X.mg X.base k x n g) (hg : Gl X x) (hd : (x == ("__debug__" : Str)) = false) : PE X (.Name x pos) (rdE (bs X) W (eC (fnD x))) := by
  obtain ⟨f, fd, ps, _, F, hm, hk, hb⟩ := C.ex
  exact e_glofn hg hm hd
def tabL (l : List (Str × FnD)) (x : Str) : Option FnD := l.lookup x
theorem tabL_ok {P : Program} {w : World} {K : PySem.W.Frag} {mg : Str → Option Value} {base : Heap} {k n : Nat} : ∀ {l : List (Str × FnD)}, (∀ p ∈ l, ∃ j, j ≤ k ∧ Cal P w K mg base j p.1 n p.2) → ∀ x g, tabL l x = some g → ∃ j, j ≤ k ∧ Cal P w K mg base j x n g
  | [], _, x, g, h => by cases h
  | (y, f) :: l, hl, x, g, h => by
    unfold tabL at h
    by_cases e : x = y
    · subst e
      have e2 : f = g := by simpa [List.lookup] using h
      subst e2
      exact hl (x, f) List.mem_cons_self
    · have e2 : (x == y) = false := by simpa using e
      simp only [List.lookup, e2] at h
      exact tabL_ok (l := l) (fun p hp => hl p (List.mem_cons_of_mem _ hp)) x g h
theorem all_nil {α : Type} {p : α → Prop} : ∀ x ∈ ([] : List α), p x := fun x h => by cases h
theorem all_cons {α : Type} {p : α → Prop} {a : α} {l : List α} (h : p a) (hl : ∀ x ∈ l, p x) : ∀ x ∈ a :: l, p x := fun x hx => by
  rcases List.mem_cons.mp hx with e | e
  · rw [e]; exact h
  · exact hl x e
end
end Rf

namespace Rf
open PySem PySem.Spec PyProof.Rows L2
def rFold (K : PySem.W.Frag) (f : List Int → Int) : List V → Hp → VK → Prop := fun xs H Q => ∃ (a : Addr) (ns : List Int), xs = [V.ref a] ∧ SqL K H a (ns.map V.int) ∧ ns ≠ [] ∧ Q (.int (f ns)) H
def rSum (K : PySem.W.Frag) : List V → Hp → VK → Prop := fun xs H Q => ∃ (a : Addr) (ns : List Int), xs = [V.ref a] ∧ (SqL K H a (ns.map V.int) ∨ SqT K H a (ns.map V.int)) ∧ Q (.int ns.sum) H
section
variable {X : Cx}
theorem call_sumI (hc : X.calm = true) : CallR X (.builtin "sum") (rSum X.K) := by
  intro pins s σ H vs us Q I r q
  obtain ⟨a, ns, rfl, hs, q⟩ := q
  rw [Vals.ref1 r]
  have fin : ∀ (xs : Array (Int × Tok)) (vs : List Value), IntsAre vs ns → vs.toArray = intItems xs → preSum (numAt xs) xs.size = ns.sum := fun xs vs hi hx => by
    rw [preSum_eq, List.take_of_length_le (by simp), ← nums_intItems, ← hx]
    exact congrArg List.sum (show numsOf vs.toArray.toList = ns from hi.numsOf)
  rcases hs with hs | hs
  · obtain ⟨its, rv, hl, hz⟩ := I.list hs
    obtain ⟨xs, hx⟩ := (rv.ints).allInts.items
    refine sum_intListG (I.ok.hd hc) (show s.heap.IsList a (intItems xs) by rw [← hx]; exact hl.isList) fun h' tk t' hk => ?_
    rw [fin xs its rv.ints hx]
    exact ⟨.int ns.sum, H, I.kept hk, ⟨t', rfl⟩, q⟩
  · obtain ⟨its, rv, hl, hz⟩ := I.tuple hs
    obtain ⟨xs, hx⟩ := (rv.ints).allInts.items
    refine PySem.W.ktm_sumG (I.ok.hd hc) (show s.heap.IsTuple a (intItems xs) by rw [← hx]; exact hl) fun h' tk t' hk => ?_
    rw [fin xs its rv.ints hx]
    exact ⟨.int ns.sum, H, I.kept hk, ⟨t', rfl⟩, q⟩
def maxI : List Int → Int
  | [] => 0
  | n :: ns => ns.foldl (fun a b => if b > a then b else a) n
def minI : List Int → Int
  | [] => 0
  | n :: ns => ns.foldl (fun a b => if b < a then b else a) n
theorem fold_max : ∀ (ns : List Int) (n : Int), (ns.foldl (fun a b => if b > a then b else a) n ∈ n :: ns) ∧ ∀ x ∈ n :: ns, x ≤ ns.foldl (fun a b => if b > a then b else a) n
  | [], n => ⟨by simp, fun x hx => by simp at hx; subst hx; exact Int.le_refl _⟩
  | m :: ns, n => by
    obtain ⟨h1, h2⟩ := fold_max ns (if m > n then m else n)
    simp only [List.foldl_cons]
    refine ⟨?_, fun x hx => ?_⟩
    · rcases List.mem_cons.mp h1 with e | e
      · rw [e]; split <;> simp
      · exact List.mem_cons_of_mem _ (List.mem_cons_of_mem _ e)
    · have h3 := h2 _ (List.mem_cons_self ..)
      rcases List.mem_cons.mp hx with e | hx
      · rw [e]; exact Int.le_trans (by split <;> omega) h3
      · rcases List.mem_cons.mp hx with e | hx
        · rw [e]; exact Int.le_trans (by split <;> omega) h3
        · exact h2 x (List.mem_cons_of_mem _ hx)
theorem fold_min : ∀ (ns : List Int) (n : Int), (ns.foldl (fun a b => if b < a then b else a) n ∈ n :: ns) ∧ ∀ x ∈ n :: ns, ns.foldl (fun a b => if b < a then b else a) n ≤ x
  | [], n => ⟨by simp, fun x hx => by simp at hx; subst hx; exact Int.le_refl _⟩
  | m :: ns, n => by
    obtain ⟨h1, h2⟩ := fold_min ns (if m < n then m else n)
    simp only [List.foldl_cons]
    refine ⟨?_, fun x hx => ?_⟩
    · rcases List.mem_cons.mp h1 with e | e
      · rw [e]; split <;> simp
      · exact List.mem_cons_of_mem _ (List.mem_cons_of_mem _ e)
    · have h3 := h2 _ (List.mem_cons_self ..)
      rcases List.mem_cons.mp hx with e | hx
      · rw [e]; exact Int.le_trans h3 (by split <;> omega)
      · rcases List.mem_cons.mp hx with e | hx
        · rw [e]; exact Int.le_trans h3 (by split <;> omega)
        · exact h2 x (List.mem_cons_of_mem _ hx)
theorem maxI_mem {ns : List Int} (h : ns ≠ []) : maxI ns ∈ ns ∧ ∀ x ∈ ns, x ≤ maxI ns := by
  cases ns with
  | nil => exact absurd rfl h
  | cons n ns => exact fold_max ns n
theorem minI_mem {ns : List Int} (h : ns ≠ []) : minI ns ∈ ns ∧ ∀ x ∈ ns, minI ns ≤ x := by
  cases ns with
  | nil => exact absurd rfl h
  | cons n ns => exact fold_min ns n
theorem best_of {ns : List Int} {xs : Array (Int × Tok)} {vs : List Value} (hi : IntsAre vs ns) (hx : vs.toArray = intItems xs) (hne : ns ≠ []) : ns = xs.toList.map (·.1) ∧ 0 < xs.size := by
  have e : ns = xs.toList.map (·.1) := by
    rw [← nums_intItems, ← hx]
    exact (show numsOf vs.toArray.toList = ns from hi.numsOf).symm
  refine ⟨e, ?_⟩
  rcases Nat.eq_zero_or_pos xs.size with z | z
  · have : xs.toList = [] := by rw [← List.length_eq_zero_iff, Array.length_toList, z]
    rw [this] at e
    exact absurd e hne
  · exact z
theorem call_minL (hc : X.calm = true) : CallR X (.builtin "min") (rFold X.K minI) := by
  intro pins s σ H vs us Q I r q
  obtain ⟨a, ns, rfl, hs, hne, q⟩ := q
  rw [Vals.ref1 r]
  obtain ⟨its, rv, hl, hz⟩ := I.list hs
  obtain ⟨xs, hx⟩ := (rv.ints).allInts.items
  obtain ⟨en, hsz⟩ := best_of rv.ints hx hne
  refine min_intList (I.ok.hd hc) (show s.heap.IsList a (intItems xs) by rw [← hx]; exact hl.isList) hsz fun v h' tk hv hk => ?_
  obtain ⟨t, rfl⟩ := intItems_at hv
  obtain ⟨h1, h2⟩ := argBest_lt (numAt xs) (xs.size - 1)
  obtain ⟨m1, m2⟩ := minI_mem hne
  have e : numAt xs (argBest (fun i j => decide (numAt xs i < numAt xs j)) (xs.size - 1)) = minI ns := by
    refine Int.le_antisymm ?_ ?_
    · rw [en] at m1
      obtain ⟨j, hj, e⟩ := mem_getD m1
      rw [List.length_map, Array.length_toList] at hj
      rw [← numAt_eq] at e
      rw [en, ← e]
      exact h2 j (by omega)
    · refine m2 _ ?_
      rw [numAt_eq, ← en]
      conv => lhs; rw [en]
      rw [en]
      exact getD_mem (by rw [List.length_map, Array.length_toList]; omega)
  rw [e]
  exact ⟨.int (minI ns), H, I.kept hk, ⟨t, rfl⟩, q⟩
theorem call_maxL (hc : X.calm = true) : CallR X (.builtin "max") (rFold X.K maxI) := by
  intro pins s σ H vs us Q I r q
  obtain ⟨a, ns, rfl, hs, hne, q⟩ := q
  rw [Vals.ref1 r]
  obtain ⟨its, rv, hl, hz⟩ := I.list hs
  obtain ⟨xs, hx⟩ := (rv.ints).allInts.items
  obtain ⟨en, hsz⟩ := best_of rv.ints hx hne
  refine max_intList (I.ok.hd hc) (show s.heap.IsList a (intItems xs) by rw [← hx]; exact hl.isList) hsz fun v h' tk hv hk => ?_
  obtain ⟨t, rfl⟩ := intItems_at hv
  obtain ⟨h1, h2⟩ := argBest_gt (numAt xs) (xs.size - 1)
  obtain ⟨m1, m2⟩ := maxI_mem hne
  have e : numAt xs (argBest (fun i j => decide (numAt xs i > numAt xs j)) (xs.size - 1)) = maxI ns := by
    refine Int.le_antisymm ?_ ?_
    · refine m2 _ ?_
      rw [en, numAt_eq]
      exact getD_mem (by rw [List.length_map, Array.length_toList]; omega)
    · rw [en] at m1
      obtain ⟨j, hj, e⟩ := mem_getD m1
      rw [List.length_map, Array.length_toList] at hj
      rw [← numAt_eq] at e
      rw [en, ← e]
      exact h2 j (by omega)
  rw [e]
  exact ⟨.int (maxI ns), H, I.kept hk, ⟨t, rfl⟩, q⟩
end
def dSum : List Dt → Option Val
  | [.list a] => (ints? a).map fun ns => .st (.int ns.sum)
  | [.tuple a] => (ints? a).map fun ns => .st (.int ns.sum)
  | _ => none
def dMinL : List Dt → Option Val
  | [.list a] => (ints? a).bind fun ns => if ns = [] then none else some (.st (.int (minI ns)))
  | _ => none
def dMaxL : List Dt → Option Val
  | [.list a] => (ints? a).bind fun ns => if ns = [] then none else some (.st (.int (maxI ns)))
  | _ => none
theorem fit_sum {B : Bs} : CallFit B (rSum B.K) dSum := by
  intro z H vs ds val Q sub hn hf hv
  unfold dSum at hf
  split at hf
  · rename_i a
    cases q : ints? a with
    | none => rw [q] at hf; cases hf
    | some ns =>
      rw [q] at hf; cases hf
      obtain ⟨v, rfl, h1⟩ := nows_one hn
      obtain ⟨p, xs, rfl, h1, r1⟩ := h1.lst sub
      rw [ints_eq q] at r1
      rw [r1.ints] at h1
      exact ⟨p, ns, rfl, .inl (.of h1), hv.int⟩
  · rename_i a
    cases q : ints? a with
    | none => rw [q] at hf; cases hf
    | some ns =>
      rw [q] at hf; cases hf
      obtain ⟨v, rfl, h1⟩ := nows_one hn
      obtain ⟨p, xs, rfl, h1, r1⟩ := h1.tup sub
      rw [ints_eq q] at r1
      rw [r1.ints] at h1
      exact ⟨p, ns, rfl, .inr h1, hv.int⟩
  · cases hf
theorem fit_minL {B : Bs} : CallFit B (rFold B.K minI) dMinL := by
  intro z H vs ds val Q sub hn hf hv
  unfold dMinL at hf
  split at hf
  · rename_i a
    cases q : ints? a with
    | none => rw [q] at hf; cases hf
    | some ns =>
      rw [q] at hf
      simp only [Option.bind_some] at hf
      split at hf
      · cases hf
      · rename_i hne
        cases hf
        obtain ⟨v, rfl, h1⟩ := nows_one hn
        obtain ⟨p, xs, rfl, h1, r1⟩ := h1.lst sub
        rw [ints_eq q] at r1
        rw [r1.ints] at h1
        exact ⟨p, ns, rfl, .of h1, hne, hv.int⟩
  · cases hf
theorem fit_maxL {B : Bs} : CallFit B (rFold B.K maxI) dMaxL := by
  intro z H vs ds val Q sub hn hf hv
  unfold dMaxL at hf
  split at hf
  · rename_i a
    cases q : ints? a with
    | none => rw [q] at hf; cases hf
    | some ns =>
      rw [q] at hf
      simp only [Option.bind_some] at hf
      split at hf
      · cases hf
      · rename_i hne
        cases hf
        obtain ⟨v, rfl, h1⟩ := nows_one hn
        obtain ⟨p, xs, rfl, h1, r1⟩ := h1.lst sub
        rw [ints_eq q] at r1
        rw [r1.ints] at h1
        exact ⟨p, ns, rfl, .of h1, hne, hv.int⟩
  · cases hf
section
variable {X : Cx} {W : WX} {e : Expr} {es : List Expr} {ms : M (List Val)} {p pos : Pos}
variable (ha : PA X (e :: es) (rdA (bs X) W ms)) (he : starEach (e :: es) X.env = (false, eval e X.env) :: starEach es X.env) (hpl : (backTo pos (starEach es X.env)).any (·.1) = false)
include ha he hpl
theorem g_sum (hc : X.calm = true) (hg : Gl X "sum") (hm : X.mg "sum" = none) : PE X (.Call (.Name "sum" p) (e :: es) [] pos) (rdE (bs X) W (eCall dSum ms)) := g_blt (call_sumI hc) fit_sum boot_sum hg hm ha (by decide) (by decide) he hpl
theorem g_minL (hc : X.calm = true) (hg : Gl X "min") (hm : X.mg "min" = none) : PE X (.Call (.Name "min" p) (e :: es) [] pos) (rdE (bs X) W (eCall dMinL ms)) := g_blt (call_minL hc) fit_minL boot_min hg hm ha (by decide) (by decide) he hpl
theorem g_maxL (hc : X.calm = true) (hg : Gl X "max") (hm : X.mg "max" = none) : PE X (.Call (.Name "max" p) (e :: es) [] pos) (rdE (bs X) W (eCall dMaxL ms)) := g_blt (call_maxL hc) fit_maxL boot_max hg hm ha (by decide) (by decide) he hpl
end
end Rf

namespace Rf
open PySem PySem.Spec PyProof.Rows L2
theorem R.bind_congr {α β : Type} {r r' : R α} {f : α → S → R β} (h : r = r') : r.bind f = r'.bind f := by rw [h]
@[simp] theorem eC_ap {d : Dt} {s : S} : eC d s = (.ok (.st d) s) := (rfl)
@[simp] theorem eVar_ap {i : Nat} {s : S} : eVar i s = (match s.env[i]? with
  | some (.fz d) => .ok (.st d) s
  | some (.ow _) => .ok (.sl i) s
  | _ => .bad) := (rfl)
@[simp] theorem eBin_ap {f : Dt → Dt → Option Val} {ma mb : M Val} {s : S} : eBin f ma mb s = ((ma s).bind fun va s1 => (mb s1).bind fun vb s2 => match peek s2 va, peek s2 vb with
  | some a, some b => fin (f a b) s2
  | _, _ => .bad) := (rfl)
@[simp] theorem tst_ap {m : M Val} {s : S} : tst m s = ((m s).bind fun v s1 => match peek s1 v with
  | some (.bool b) => .ok b s1
  | _ => .bad) := (rfl)
@[simp] theorem eChain_ap {f f' : Dt → Dt → Option Val} {ma mb mc : M Val} {s : S} : eChain f f' ma mb mc s = ((ma s).bind fun va s1 => (mb s1).bind fun vb s2 => match peek s2 va, peek s2 vb with
  | some a, some b => match f a b with
    | some (.st (.bool true)) => (mc s2).bind fun vc s3 => match peek s3 vb, peek s3 vc with
      | some b', some c => fin (f' b' c) s3
      | _, _ => .bad
    | some (.st (.bool false)) => .ok (.st (.bool false)) s2
    | _ => .bad
  | _, _ => .bad) := (rfl)
@[simp] theorem bAnd_ap {m n : M Bool} {s : S} : bAnd m n s = ((m s).bind fun b s1 => if b then n s1 else .ok false s1) := (rfl)
@[simp] theorem bOr_ap {m n : M Bool} {s : S} : bOr m n s = ((m s).bind fun b s1 => if b then .ok true s1 else n s1) := (rfl)
@[simp] theorem bNot_ap {m : M Bool} {s : S} : bNot m s = ((m s).bind fun b s1 => .ok (!b) s1) := (rfl)
@[simp] theorem eAnd_ap {m n : M Val} {s : S} : eAnd m n s = ((tst m s).bind fun b s1 => if b then n s1 else .ok (.st (.bool false)) s1) := (rfl)
@[simp] theorem eOr_ap {m n : M Val} {s : S} : eOr m n s = ((tst m s).bind fun b s1 => if b then .ok (.st (.bool true)) s1 else n s1) := (rfl)
@[simp] theorem eNot_ap {m : M Val} {s : S} : eNot m s = ((tst m s).bind fun b s1 => .ok (.st (.bool (!b))) s1) := (rfl)
@[simp] theorem eIf_ap {c : M Bool} {ma mb : M Val} {s : S} : eIf c ma mb s = ((c s).bind fun b s1 => if b then ma s1 else mb s1) := (rfl)
@[simp] theorem bIf_ap {c ma mb : M Bool} {s : S} : bIf c ma mb s = ((c s).bind fun b s1 => if b then ma s1 else mb s1) := (rfl)
@[simp] theorem eUn_ap {f : Dt → Option Val} {ma : M Val} {s : S} : eUn f ma s = ((ma s).bind fun va s1 => match peek s1 va with
  | some a => fin (f a) s1
  | none => .bad) := (rfl)
@[simp] theorem aNil_ap  {s : S} : aNil  s = (.ok [] s) := (rfl)
@[simp] theorem aCons_ap {m : M Val} {ms : M (List Val)} {s : S} : aCons m ms s = ((m s).bind fun v s1 => (ms s1).bind fun vs s2 => .ok (v :: vs) s2) := (rfl)
@[simp] theorem eTup_ap {ms : M (List Val)} {s : S} : eTup ms s = ((ms s).bind fun vs s1 => match frzs s1 vs with
  | some (ds, s2) => if ds.length ≤ sizeLine then .ok (.st (.tuple ds)) s2 else .bad
  | none => .bad) := (rfl)
@[simp] theorem eLst_ap {ms : M (List Val)} {s : S} : eLst ms s = ((ms s).bind fun vs s1 => match frzs s1 vs with
  | some (ds, s2) => if ds.length ≤ sizeLine then .ok (.ow (.list ds)) s2 else .bad
  | none => .bad) := (rfl)
@[simp] theorem eCall_ap {f : List Dt → Option Val} {ms : M (List Val)} {s : S} : eCall f ms s = ((ms s).bind fun vs s1 => match peeks s1 vs with
  | some ds => fin (f ds) s1
  | none => .bad) := (rfl)
@[simp] theorem sNx_ap  {s : S} : sNx  s = (.ok .nx s) := (rfl)
def R.thn (r : R Flo) (n : M Flo) : R Flo := r.bind fun g s1 => match g with
  | .nx => n s1
  | g => .ok g s1
@[simp] theorem thn_nx {s : S} {n : M Flo} : R.thn (.ok .nx s) n = n s := (rfl)
@[simp] theorem thn_ct {s : S} {n : M Flo} : R.thn (.ok .ct s) n = .ok .ct s := (rfl)
@[simp] theorem thn_bk {s : S} {n : M Flo} : R.thn (.ok .bk s) n = .ok .bk s := (rfl)
@[simp] theorem thn_rt {s : S} {v : Val} {n : M Flo} : R.thn (.ok (.rt v) s) n = .ok (.rt v) s := (rfl)
@[simp] theorem thn_ex {e : Ex} {am : Option Src} {n : M Flo} : R.thn (.ex e am) n = .ex e am := (rfl)
@[simp] theorem thn_bad {n : M Flo} : R.thn .bad n = .bad := (rfl)
@[simp] theorem sSeq_ap {m n : M Flo} {s : S} : sSeq m n s = (m s).thn n := (rfl)
@[simp] theorem sBk_ap  {s : S} : sBk  s = (.ok .bk s) := (rfl)
@[simp] theorem sCt_ap  {s : S} : sCt  s = (.ok .ct s) := (rfl)
@[simp] theorem sDrop_ap {m : M Val} {s : S} : sDrop m s = ((m s).bind fun _ s1 => .ok .nx s1) := (rfl)
@[simp] theorem sRet_ap {m : M Val} {s : S} : sRet m s = ((m s).bind fun v s1 => .ok (.rt v) s1) := (rfl)
@[simp] theorem sIf_ap {c : M Bool} {m n : M Flo} {s : S} : sIf c m n s = ((c s).bind fun b s1 => if b then m s1 else n s1) := (rfl)
@[simp] theorem sSet_ap {i : Nat} {m : M Val} {s : S} : sSet i m s = ((m s).bind (store i)) := (rfl)
@[simp] theorem iSeq_ap {m : M Val} {s : S} : iSeq m s = ((m s).bind fun v s1 => match frz s1 v with
  | some (.list ds, s2) => .ok ds s2
  | some (.tuple ds, s2) => .ok ds s2
  | _ => .bad) := (rfl)
@[simp] theorem iRange1_ap {ms : M (List Val)} {s : S} : iRange1 ms s = ((ms s).bind fun vs s1 => match peeks s1 vs with
  | some [.int j] => if rgOk j then .ok (rangeD 0 j.toNat) s1 else .bad
  | _ => .bad) := (rfl)
@[simp] theorem iRange2_ap {ms : M (List Val)} {s : S} : iRange2 ms s = ((ms s).bind fun vs s1 => match peeks s1 vs with
  | some [.int i, .int j] => if rgOk i ∧ rgOk j then .ok (rangeD i (j - i).toNat) s1 else .bad
  | _ => .bad) := (rfl)
@[simp] theorem sFor_ap {mi : M (List Dt)} {t : Tg} {b : M Flo} {s : S} : sFor mi t b s = ((mi s).bind fun ds s1 => forL t b ds s1) := (rfl)
@[simp] theorem bYes_ap  {s : S} : bYes  s = (.ok true s) := (rfl)
@[simp] theorem eComp_ap {own : List Nat} {mi : M (List Dt)} {t : Tg} {tt : M Bool} {te : M Val} {s : S} : eComp own mi t tt te s = ((mi s).bind fun ds s1 => match compL own t tt te ds [] (s1.wp own) with
  | some (acc, s2) => .ok (.ow (.list acc)) { s2 with env := resE s1.env s2.env own }
  | none => .bad) := (rfl)
@[simp] theorem eMut_ap {f : List Dt → List Dt → Option (List Dt × Dt)} {mo : M Val} {ms : M (List Val)} {s : S} : eMut f mo ms s = ((mo s).bind fun vo s1 => match ownL s1 vo with
  | none => .bad
  | some (i, _) => (ms s1).bind fun vals s2 => match frzs s2 vals with
    | none => .bad
    | some (ds, s3) => match ownL s3 (.sl i) with
      | none => .bad
      | some (_, xs) => match f xs ds with
        | none => .bad
        | some (xs', d) => .ok (.st d) { s3 with env := s3.env.set i (.ow (.list xs')) }) := (rfl)
@[simp] theorem sSetIx_ap {mv mo mi : M Val} {s : S} : sSetIx mv mo mi s = ((mv s).bind fun vv s1 => (mo s1).bind fun vo s2 => (mi s2).bind fun vi s3 => match frz s3 vv with
  | none => .bad
  | some (d, s4) => match peek s4 vi, ownS s4 vo with
    | some di, some (i, o) => match putIx o di d with
      | some o' => .ok .nx { s4 with env := s4.env.set i (.ow o') }
      | none => .bad
    | _, _ => .bad) := (rfl)
@[simp] theorem sAug_ap {i : Nat} {f : Dt → Dt → Option Val} {m : M Val} {s : S} : sAug i f m s = (match s.env[i]? with
  | some (.fz a) => (m s).bind fun v s1 => match peek s1 v with
    | some b => match f a b with
      | some (.st d) => store i (.st d) s1
      | _ => .bad
    | none => .bad
  | _ => .bad) := (rfl)
@[simp] theorem sPar_ap {is : List Nat} {ms : M (List Val)} {s : S} : sPar is ms s = ((ms s).bind fun vals s1 => match prep s1 vals with
  | none => .bad
  | some (ws, s2) => match storeAll is ws s2 with
    | some s3 => .ok .nx s3
    | none => .bad) := (rfl)
@[simp] theorem sUnp_ap {t : Tg} {m : M Val} {s : S} : sUnp t m s = ((m s).bind fun v s1 => match frz s1 v with
  | none => .bad
  | some (d, s2) => match stT t d s2 with
    | some s3 => .ok .nx s3
    | none => .bad) := (rfl)
@[simp] theorem sAugIx_ap {f : Dt → Dt → Option Val} {mo mi me : M Val} {s : S} : sAugIx f mo mi me s = ((mo s).bind fun vo s1 => (mi s1).bind fun vi s2 => match ownL s2 vo, peek s2 vi with
  | some (i, xs), some (.int k) => match atI xs k with
    | none => .bad
    | some a => (me s2).bind fun ve s3 => match peek s3 ve with
      | none => .bad
      | some b => match f a b, ownL s3 (.sl i) with
        | some (.st d), some (_, xs') => match ixN xs'.length k with
          | some j => .ok .nx { s3 with env := s3.env.set i (.ow (.list (xs'.set j d))) }
          | none => .bad
        | _, _ => .bad
  | _, _ => .bad) := (rfl)
@[simp] theorem eFn_ap {f : FnD} {ms : M (List Val)} {s : S} : eFn f ms s = ((ms s).bind fun vs s1 => match frzs s1 vs with
  | none => .bad
  | some (ds, s2) => match f ds s2.am with
    | .ret (.st d) am => .ok (.st d) ⟨if noRef d then s1.env else s2.env, am⟩
    | .ret (.ow d) am => .ok (.ow d) ⟨if noRefO d then s1.env else s2.env, am⟩
    | .ex e am => .ex e am
    | .bad => .bad) := (rfl)
@[simp] theorem eGet2_ap {mo mk md : M Val} {s : S} : eGet2 mo mk md s = ((mo s).bind fun vo s1 => match peek s1 vo with
  | some (.dict ds1) => if goodK ds1 then (mk s1).bind fun vk s2 => (md s2).bind fun vd s3 => match peek s3 vo, peek s3 vk with
    | some (.dict ds), some kd => match kOf kd with
      | some k => if goodK ds then (match dGet ds k with
        | some d => .ok (.st d) s3
        | none => match vd with
          | .sl _ => .bad
          | v => .ok v s3) else .bad
      | none => .bad
    | _, _ => .bad
    else .bad
  | _ => .bad) := (rfl)
@[simp] theorem eSl_ap {mo : M Val} {ml mh : Option (M Val)} {s : S} : eSl mo ml mh s = ((mo s).bind fun vo s1 => (mPart ml s1).bind fun p1 s2 => (mPart mh s2).bind fun p2 s3 => match peek s3 vo with
  | some d => fin (dCut p1.1 p2.1 d) s3
  | none => .bad) := (rfl)
@[simp] theorem eItems_ap {m : M Val} {s : S} : eItems m s = ((m s).bind fun v s1 => match peek s1 v with
  | some (.dict kvs) => if goodK kvs then .ok (.ow (.list (itemsD kvs))) s1 else .bad
  | _ => .bad) := (rfl)
@[simp] theorem iZip_ap {ms : M (List Val)} {s : S} : iZip ms s = ((ms s).bind fun vs s1 => match frzs s1 vs with
  | some (ds, s2) => (match ds with
    | [.list xs, .list ys] => if (zipD xs ys).all npD then .ok (zipD xs ys) s2 else .bad
    | [.tuple xs, .tuple ys] => if (zipD xs ys).all npD then .ok (zipD xs ys) s2 else .bad
    | _ => .bad)
  | none => .bad) := (rfl)
@[simp] theorem iEnum_ap {ms : M (List Val)} {s : S} : iEnum ms s = ((ms s).bind fun vs s1 => match frzs s1 vs with
  | some (ds, s2) => (match ds with
    | [.list xs] => .ok (enumD xs) s2
    | [.tuple xs] => .ok (enumD xs) s2
    | _ => .bad)
  | none => .bad) := (rfl)
@[simp] theorem iRange3_ap {ms : M (List Val)} {s : S} : iRange3 ms s = ((ms s).bind fun vs s1 => match peeks s1 vs with
  | some [.int i, .int j, .int c] => if rgOk i ∧ rgOk j ∧ c = -1 then .ok (downD i (i - j).toNat) s1 else .bad
  | _ => .bad) := (rfl)
@[simp] theorem eSrcGet_ap {k : Str} {mo : M Val} {s : S} : eSrcGet k mo s = ((mo s).bind fun v s1 => if isSrc v then (match s1.am with
  | some src => (match srcGet src k with
    | some i => .ok (.st (.int i)) s1
    | none => .bad)
  | none => .bad) else .bad) := (rfl)
@[simp] theorem eSrcLen_ap {mo : M Val} {s : S} : eSrcLen mo s = ((mo s).bind fun v s1 => if isSrc v then (match s1.am with
  | some src => .ok (.st (.int (src.cells.length : Nat))) s1
  | none => .bad) else .bad) := (rfl)
@[simp] theorem sSrcSet_ap {k : Str} {mv mo : M Val} {s : S} : sSrcSet k mv mo s = ((mv s).bind fun vv s1 => (mo s1).bind fun v s2 => if isSrc v then (match s2.am, peek s2 vv with
  | some src, some (.int i) => if 0 ≤ i then (match srcPut src k i.toNat with
    | some src' => .ok .nx { s2 with am := some src' }
    | none => .bad) else .bad
  | _, _ => .bad) else .bad) := (rfl)
@[simp] theorem sSrcPop_ap {mo mo2 : M Val} {s : S} : sSrcPop mo mo2 s = ((mo2 s).bind fun v s1 => if isSrc v then (match s1.am with
  | some src => (match src.cells[src.cells.length - 1]? with
    | some n => (mo { s1 with am := some { src with cells := src.cells.dropLast } }).bind fun v2 s2 => if isSrc v2 then (match s2.am with
      | some src2 => .ok .nx { s2 with am := some { src2 with left := n } }
      | none => .bad) else .bad
    | none => .bad)
  | none => .bad) else .bad) := (rfl)
@[simp] theorem iScr_ap {m : M Val} {s : S} : iScr m s = ((m s).bind fun v s1 => match v with
  | .st (.dict [(.none, .list ds)]) => .ok ds s1
  | _ => .bad) := (rfl)
@[simp] theorem eRev_ap {m : M Val} {s : S} : eRev m s = ((m s).bind fun v s1 => match peek s1 v with
  | some (.list ds) => .ok (.ow (.list ds.reverse)) s1
  | _ => .bad) := (rfl)
@[simp] theorem sSrcRet_ap {mc mm : M Val} {s : S} : sSrcRet mc mm s = ((mc s).bind fun vc s1 => (mm s1).bind fun vm s2 => match srcRetV vc (peek s2 vm) s2.am with
  | some (ns, m) => .ok (.rt (.st srcD)) { s2 with am := some ⟨ns, 1, m, 0⟩ }
  | none => .bad) := (rfl)
@[simp] theorem eDict0_ap  {s : S} : eDict0  s = (.ok (.ow (.dict [])) s) := (rfl)
section
variable {s : S} {am : Option Src} {d : Dt} {n : Nat} {i j : Int} {xs ys : List Dt} {x y : Str} {b : Bool}
@[simp] theorem peek_st : peek s (.st d) = some d := (rfl)
@[simp] theorem peek_ow : peek s (.ow d) = some d := (rfl)
@[simp] theorem peek_sl : peek s (.sl n) = (match s.env[n]? with | some (.fz d) => some d | some (.ow d) => some d | _ => none) := (rfl)
@[simp] theorem frz_st : frz s (.st d) = some (d, s) := (rfl)
@[simp] theorem frz_ow : frz s (.ow d) = some (d, s) := (rfl)
@[simp] theorem frz_sl : frz s (.sl n) = (match s.env[n]? with | some (.fz d) => some (d, s) | some (.ow d) => some (d, { s with env := s.env.set n (.fz d) }) | _ => none) := (rfl)
@[simp] theorem frzs_nil : frzs s [] = some ([], s) := (rfl)
@[simp] theorem frzs_cons {v : Val} {vs : List Val} : frzs s (v :: vs) = (match frz s v with | none => none | some (d, s1) => match frzs s1 vs with | none => none | some (ds, s2) => some (d :: ds, s2)) := (rfl)
@[simp] theorem peeks_nil : peeks s [] = some [] := (rfl)
@[simp] theorem peeks_cons {v : Val} {vs : List Val} : peeks s (v :: vs) = (match peek s v, peeks s vs with | some d, some ds => some (d :: ds) | _, _ => none) := (rfl)
@[simp] theorem prep_nil : prep s [] = some ([], s) := (rfl)
@[simp] theorem prep_st {vs : List Val} : prep s (.st d :: vs) = (match prep s vs with | none => none | some (ws, s2) => some (.st d :: ws, s2)) := (rfl)
@[simp] theorem prep_ow {vs : List Val} : prep s (.ow d :: vs) = (match prep s vs with | none => none | some (ws, s2) => some (.ow d :: ws, s2)) := (rfl)
@[simp] theorem prep_sl {vs : List Val} : prep s (.sl n :: vs) = (match frz s (.sl n) with | none => none | some (d, s1) => match prep s1 vs with | none => none | some (ws, s2) => some (.st d :: ws, s2)) := (rfl)
@[simp] theorem storeAll_nil : storeAll [] [] s = some s := (rfl)
@[simp] theorem storeAll_cons {k : Nat} {ks : List Nat} {v : Val} {vs : List Val} : storeAll (k :: ks) (v :: vs) s = (if k < s.env.length then storeAll ks vs { s with env := s.env.set k (slotV v) } else none) := (rfl)
@[simp] theorem slotV_st : slotV (.st d) = .fz d := (rfl)
@[simp] theorem slotV_ow : slotV (.ow d) = .ow d := (rfl)
@[simp] theorem store_st : store n (.st d) s = (if n < s.env.length then .ok .nx { s with env := s.env.set n (.fz d) } else .bad) := (rfl)
@[simp] theorem store_ow : store n (.ow d) s = (if n < s.env.length then .ok .nx { s with env := s.env.set n (.ow d) } else .bad) := (rfl)
@[simp] theorem store_sl {k : Nat} : store n (.sl k) s = (if n < s.env.length then (match frz s (.sl k) with | some (d, s1) => .ok .nx { s1 with env := s1.env.set n (.fz d) } | none => .bad) else .bad) := (rfl)
@[simp] theorem fin_st : fin (some (.st d)) s = .ok (.st d) s := (rfl)
@[simp] theorem fin_ow : fin (some (.ow d)) s = .ok (.ow d) s := (rfl)
@[simp] theorem stT_nm : stT (.nm n) d s = (if n < s.env.length then some { s with env := s.env.set n (.fz d) } else none) := by rw [stT]
@[simp] theorem stT_tup {ts : List Tg} : stT (.tp ts) (.tuple xs) s = stTs ts xs s := by rw [stT]
@[simp] theorem stT_lst {ts : List Tg} : stT (.tp ts) (.list xs) s = stTs ts xs s := by rw [stT]
@[simp] theorem stTs_nil : stTs [] [] s = some s := by rw [stTs]
@[simp] theorem stTs_cons {t : Tg} {ts : List Tg} : stTs (t :: ts) (d :: xs) s = (match stT t d s with | some s1 => stTs ts xs s1 | none => none) := by rw [stTs] <;> (cases stT t d s <;> rfl)
@[simp] theorem ownL_sl : ownL s (.sl n) = (match s.env[n]? with | some (.ow (.list xs)) => some (n, xs) | _ => none) := (rfl)
@[simp] theorem ownS_sl : ownS s (.sl n) = (match s.env[n]? with | some (.ow d) => some (n, d) | _ => none) := (rfl)
@[simp] theorem dAdd_i : dAdd (.int i) (.int j) = some (.st (.int (i + j))) := (rfl)
@[simp] theorem dAdd_l : dAdd (.list xs) (.list ys) = (if xs.length + ys.length ≤ sizeLine then some (.ow (.list (xs ++ ys))) else none) := (rfl)
@[simp] theorem dAdd_t : dAdd (.tuple xs) (.tuple ys) = (if xs.length + ys.length ≤ sizeLine then some (.st (.tuple (xs ++ ys))) else none) := (rfl)
@[simp] theorem dAdd_s : dAdd (.str x) (.str y) = (if x.length + y.length ≤ sizeLine then some (.st (.str (x ++ y))) else none) := (rfl)
@[simp] theorem dSub_i : dSub (.int i) (.int j) = some (.st (.int (i - j))) := (rfl)
@[simp] theorem dMul_i : dMul (.int i) (.int j) = (if MulOk i j then some (.st (.int (i * j))) else none) := (rfl)
@[simp] theorem dMul_l : dMul (.list xs) (.int i) = (if RepOk xs.length i then some (.ow (.list (List.replicate i.toNat xs).flatten)) else none) := (rfl)
@[simp] theorem dDiv_i : dDiv (.int i) (.int j) = (if DivOk j then some (.st (.int (i / j))) else none) := (rfl)
@[simp] theorem dMod_i : dMod (.int i) (.int j) = (if 0 < j then some (.st (.int (i % j))) else none) := (rfl)
@[simp] theorem dPow_i : dPow (.int i) (.int j) = (if PowOk i j then some (.st (.int (i ^ j.toNat))) else none) := (rfl)
@[simp] theorem dLt_i : dLt (.int i) (.int j) = some (.st (.bool (decide (i < j)))) := (rfl)
@[simp] theorem dLe_i : dLe (.int i) (.int j) = some (.st (.bool (decide (i ≤ j)))) := (rfl)
@[simp] theorem dGt_i : dGt (.int i) (.int j) = some (.st (.bool (decide (j < i)))) := (rfl)
@[simp] theorem dGe_i : dGe (.int i) (.int j) = some (.st (.bool (decide (j ≤ i)))) := (rfl)
@[simp] theorem dNeg_i : dNeg (.int i) = some (.st (.int (-i))) := (rfl)
theorem shaped_int : SeqAt.shaped (.int i) = true := by simp [SeqAt.shaped, PyData.canLay0, PyData.depth]
theorem shaped_bool : SeqAt.shaped (.bool b) = true := by simp [SeqAt.shaped, PyData.canLay0, PyData.depth]
@[simp] theorem dEq_i : dEq (.int i) (.int j) = some (.st (.bool (decide (i = j)))) := by
  simp only [dEq]
  rw [if_pos ⟨shaped_int, shaped_int⟩]
  simp [PyData.eqv]
  by_cases h : i = j <;> simp [h]
@[simp] theorem dNe_i : dNe (.int i) (.int j) = some (.st (.bool (!decide (i = j)))) := by
  simp only [dNe]
  rw [if_pos ⟨shaped_int, shaped_int⟩]
  simp [PyData.eqv]
  by_cases h : i = j <;> simp [h]
@[simp] theorem dEq_s : dEq (.str x) (.str y) = some (.st (.bool (decide (x = y)))) := (rfl)
@[simp] theorem dNe_s : dNe (.str x) (.str y) = some (.st (.bool (!decide (x = y)))) := (rfl)
@[simp] theorem dIs_none : dIs d .none = some (.st (.bool (isNone d))) := (rfl)
@[simp] theorem dIsNot_none : dIsNot d .none = some (.st (.bool (!isNone d))) := (rfl)
@[simp] theorem isNone_none : isNone .none = true := (rfl)
@[simp] theorem isNone_int : isNone (.int i) = false := (rfl)
@[simp] theorem isNone_tup : isNone (.tuple xs) = false := (rfl)
@[simp] theorem isNone_lst : isNone (.list xs) = false := (rfl)
@[simp] theorem dIxD_t : dIxD (.tuple xs) (.int i) = (atI xs i).map .st := (rfl)
@[simp] theorem dIxD_l : dIxD (.list xs) (.int i) = (atI xs i).map .st := (rfl)
@[simp] theorem dIxD_d {kvs : List (Dt × Dt)} : dIxD (.dict kvs) d = (match kOf d with | some key => if goodK kvs then (dGet kvs key).map .st else none | none => none) := (rfl)
@[simp] theorem kOf_i : kOf (.int i) = some (.inl i) := (rfl)
@[simp] theorem kOf_s : kOf (.str x) = some (.inr x) := (rfl)
theorem atI_0 {α : Type} {a : α} {l : List α} : atI (a :: l) 0 = some a := by simp [atI, ixN]
theorem atI_1 {α : Type} {a b : α} {l : List α} : atI (a :: b :: l) 1 = some b := by
  simp [atI, ixN]
  rw [if_pos (by omega)]
  rfl
theorem atI_nat {α : Type} {l : List α} {k : Nat} : atI l (k : Nat) = l[k]? := by
  unfold atI ixN
  rw [if_pos (by omega)]
  by_cases h : k < l.length
  · rw [if_pos (by omega)]; simp
  · rw [if_neg (by omega), List.getElem?_eq_none (by omega)]; rfl
theorem atI_last {α : Type} {l : List α} {a : α} : atI (l ++ [a]) (-1) = some a := by
  unfold atI ixN
  rw [if_neg (by omega), if_pos (by simp; omega)]
  have e : (-1 + ((l ++ [a]).length : Int)).toNat = l.length := by simp; omega
  show (l ++ [a])[(-1 + ((l ++ [a]).length : Int)).toNat]? = some a
  rw [e]
  simp
@[simp] theorem putIx_l {k : Int} : putIx (.list xs) (.int k) d = (ixN xs.length k).map fun j => .list (xs.set j d) := (rfl)
@[simp] theorem dLen_l : dLen [.list xs] = some (.st (.int xs.length)) := (rfl)
@[simp] theorem dLen_t : dLen [.tuple xs] = some (.st (.int xs.length)) := (rfl)
@[simp] theorem dAbs_i : dAbs [.int i] = some (.st (.int (if i < 0 then -i else i))) := (rfl)
@[simp] theorem dMax_i : dMax [.int i, .int j] = some (.st (.int (if j > i then j else i))) := (rfl)
@[simp] theorem dMin_i : dMin [.int i, .int j] = some (.st (.int (if j < i then j else i))) := (rfl)
@[simp] theorem dInt_i : dInt [.int i] = some (.st (.int i)) := (rfl)
@[simp] theorem dInt_b : dInt [.bool b] = some (.st (.int (if b then 1 else 0))) := (rfl)
@[simp] theorem dList_l : dList [.list xs] = some (.ow (.list xs)) := (rfl)
@[simp] theorem dList_t : dList [.tuple xs] = some (.ow (.list xs)) := (rfl)
@[simp] theorem dTuple_l : dTuple [.list xs] = some (.st (.tuple xs)) := (rfl)
@[simp] theorem dTuple_t : dTuple [.tuple xs] = some (.st (.tuple xs)) := (rfl)
@[simp] theorem fApp_1 : fApp xs [d] = (if xs.length < sizeLine then some (xs ++ [d], .none) else none) := (rfl)
@[simp] theorem fExt_1 : fExt xs [.list ys] = (if xs.length + ys.length ≤ sizeLine then some (xs ++ ys, .none) else none) := (rfl)
@[simp] theorem dAddI_i : dAddI (.int i) (.int j) = some (.st (.int (i + j))) := (rfl)
@[simp] theorem dMulI_i : dMulI (.int i) (.int j) = (if MulOk i j then some (.st (.int (i * j))) else none) := (rfl)
@[simp] theorem toFV_st : toFV s (.st d) = .ret (.st d) s.am := (rfl)
@[simp] theorem toFV_ow : toFV s (.ow d) = .ret (.ow d) s.am := (rfl)
@[simp] theorem toFV_sl : toFV s (.sl n) = (match s.env[n]? with | some (.fz d) => .ret (.st d) s.am | some (.ow d) => .ret (.ow d) s.am | _ => .bad) := (rfl)
theorem runF_ret {n : Nat} {m : M Flo} {ds : List Dt} {v : Val} {s : S} (h : m (startS n ds am) = .ok (.rt v) s) : runF n m ds am = toFV s v := by
  unfold runF
  rw [h]
@[simp] theorem wipeE_nil {e : List Slot} : wipeE e [] = e := by rw [wipeE]
@[simp] theorem noRef_i : noRef (.int i) = true := by rw [noRef]
@[simp] theorem noRef_n : noRef .none = true := by rw [noRef]
@[simp] theorem noRef_b : noRef (.bool b) = true := by rw [noRef]
@[simp] theorem noRef_s : noRef (.str x) = true := by rw [noRef]
@[simp] theorem noRef_t : noRef (.tuple xs) = noRefs xs := by rw [noRef]
@[simp] theorem noRef_l : noRef (.list xs) = false := by rw [noRef]
@[simp] theorem noRefs_nil : noRefs [] = true := by rw [noRefs]
@[simp] theorem noRefs_cons : noRefs (d :: xs) = (noRef d && noRefs xs) := by rw [noRefs]
@[simp] theorem noRefO_l : noRefO (.list xs) = noRefs xs := (rfl)
theorem noRefs_map {α : Type} {f : α → Dt} (h : ∀ a, noRef (f a) = true) : ∀ l : List α, noRefs (l.map f) = true
  | [] => noRefs_nil
  | a :: l => by rw [List.map_cons, noRefs_cons, h a, noRefs_map h l]; rfl
end
end Rf

namespace Rf
open PySem PySem.Spec PyProof.Rows L2

theorem forL_inv {t : Tg} {b : M Flo} {α : Type} {f : α → Dt} (I : List α → S → Prop) : ∀ (xs pre : List α) (s : S), I pre s →
    (∀ p x q s, pre ++ xs = p ++ x :: q → pre.length ≤ p.length → I p s → ∃ s1, stT t (f x) s = some s1 ∧ ∃ s2, (b s1 = .ok .nx s2 ∨ b s1 = .ok .ct s2) ∧ I (p ++ [x]) s2) → ∃ s', forL t b (xs.map f) s = .ok .nx s' ∧ I (pre ++ xs) s'
  | [], pre, s, h, _ => ⟨s, rfl, by simpa using h⟩
  | x :: xs, pre, s, h, k => by
    obtain ⟨s1, e1, s2, e2, h2⟩ := k pre x xs s rfl (Nat.le_refl _) h
    obtain ⟨s', e3, h3⟩ := forL_inv I xs (pre ++ [x]) s2 h2 fun p y q s e hl => k p y q s (by rw [← e]; simp) (by simp at hl; omega)
    refine ⟨s', ?_, by simpa using h3⟩
    rw [List.map_cons]
    simp only [forL]
    rw [e1]
    simp only
    rcases e2 with e2 | e2
    · rw [e2]; exact e3
    · rw [e2]; exact e3
theorem for_inv {t : Tg} {b : M Flo} {α : Type} {f : α → Dt} {xs : List α} {s : S} (I : List α → S → Prop) (h : I [] s)
    (k : ∀ p x q s, xs = p ++ x :: q → I p s → ∃ s1, stT t (f x) s = some s1 ∧ ∃ s2, (b s1 = .ok .nx s2 ∨ b s1 = .ok .ct s2) ∧ I (p ++ [x]) s2) : ∃ s', forL t b (xs.map f) s = .ok .nx s' ∧ I xs s' :=
  forL_inv I xs [] s h fun p x q s e _ hp => k p x q s e hp
theorem compL_map {own : List Nat} {t : Tg} {tt : M Bool} {te : M Val} {α : Type} {f g : α → Dt} {p : α → Bool} {s : S} : ∀ (xs : List α) (acc : List Dt),
    (∀ x ∈ xs, ∃ s1, stT t (f x) s = some s1 ∧ tt s1 = .ok (p x) s1 ∧ (p x = true → ∃ v, te s1 = .ok v s1 ∧ frz s1 v = some (g x, s1)) ∧ s1.wp own = s) → acc.length + xs.length ≤ sizeLine →
    compL own t tt te (xs.map f) acc s = some (acc ++ (xs.filter p).map g, s)
  | [], acc, _, _ => by simp [compL]
  | x :: xs, acc, h, hl => by
    obtain ⟨s1, e1, e2, e3, e4⟩ := h x List.mem_cons_self
    have hl' : acc.length + (xs.length + 1) ≤ sizeLine := hl
    rw [List.map_cons]
    simp only [compL]
    rw [e1]
    simp only
    rw [e2]
    cases hp : p x with
    | true =>
      obtain ⟨v, e5, e6⟩ := e3 hp
      simp only
      rw [e5]
      simp only
      rw [e6]
      simp only
      rw [if_pos (by omega), e4, compL_map xs _ (fun y hy => h y (List.mem_cons_of_mem _ hy)) (by simp; omega)]
      simp [hp]
    | false =>
      simp only
      rw [e4, compL_map xs _ (fun y hy => h y (List.mem_cons_of_mem _ hy)) (by omega)]
      simp [hp]
theorem compL_all {own : List Nat} {t : Tg} {te : M Val} {α : Type} {f g : α → Dt} {s : S} (xs : List α) (h : ∀ x ∈ xs, ∃ s1, stT t (f x) s = some s1 ∧ (∃ v, te s1 = .ok v s1 ∧ frz s1 v = some (g x, s1)) ∧ s1.wp own = s) (hl : xs.length ≤ sizeLine) :
    compL own t bYes te (xs.map f) [] s = some (xs.map g, s) := by
  rw [compL_map (p := fun _ => true) (g := g) xs [] (fun x hx => ?_) (by simpa using hl)]
  · have : xs.filter (fun _ => true) = xs := List.filter_eq_self.mpr fun _ _ => rfl
    rw [this, List.nil_append]
  · obtain ⟨s1, h1, h2, h3⟩ := h x hx
    exact ⟨s1, h1, rfl, fun _ => h2, h3⟩
theorem compL_inv {own : List Nat} {t : Tg} {tt : M Bool} {te : M Val} {α : Type} {f : α → Dt} (I : List α → List Dt → S → Prop) : ∀ (xs pre : List α) (acc : List Dt) (s : S), I pre acc s →
    (∀ p x q acc s, pre ++ xs = p ++ x :: q → pre.length ≤ p.length → I p acc s → ∃ s1 b s2, stT t (f x) s = some s1 ∧ tt s1 = .ok b s2 ∧ (b = false → I (p ++ [x]) acc (s2.wp own)) ∧ (b = true → ∃ v s3 d s4, te s2 = .ok v s3 ∧ frz s3 v = some (d, s4) ∧ I (p ++ [x]) (acc ++ [d]) (s4.wp own))) →
    acc.length + xs.length ≤ sizeLine → ∃ acc' s', compL own t tt te (xs.map f) acc s = some (acc', s') ∧ I (pre ++ xs) acc' s'
  | [], pre, acc, s, h, _, _ => ⟨acc, s, by simp [compL], by simpa using h⟩
  | x :: xs, pre, acc, s, h, k, hl => by
    obtain ⟨s1, b, s2, e1, e2, hf, ht⟩ := k pre x xs acc s rfl (Nat.le_refl _) h
    have hl' : acc.length + (xs.length + 1) ≤ sizeLine := hl
    rw [List.map_cons]
    simp only [compL]
    rw [e1]
    simp only
    rw [e2]
    cases b with
    | true =>
      obtain ⟨v, s3, d, s4, e5, e6, h6⟩ := ht rfl
      simp only
      rw [e5]
      simp only
      rw [e6]
      simp only
      rw [if_pos (by omega)]
      obtain ⟨acc', s', e7, h7⟩ := compL_inv I xs (pre ++ [x]) _ _ h6 (fun p y q a s e hl => k p y q a s (by rw [← e]; simp) (by simp at hl; omega)) (by simp; omega)
      exact ⟨acc', s', e7, by simpa using h7⟩
    | false =>
      simp only
      obtain ⟨acc', s', e7, h7⟩ := compL_inv I xs (pre ++ [x]) _ _ (hf rfl) (fun p y q a s e hl => k p y q a s (by rw [← e]; simp) (by simp at hl; omega)) (by omega)
      exact ⟨acc', s', e7, by simpa using h7⟩
theorem comp_inv {own : List Nat} {t : Tg} {tt : M Bool} {te : M Val} {α : Type} {f : α → Dt} {xs : List α} {s : S} (I : List α → List Dt → S → Prop) (h : I [] [] s)
    (k : ∀ p x q acc s, xs = p ++ x :: q → I p acc s → ∃ s1 b s2, stT t (f x) s = some s1 ∧ tt s1 = .ok b s2 ∧ (b = false → I (p ++ [x]) acc (s2.wp own)) ∧ (b = true → ∃ v s3 d s4, te s2 = .ok v s3 ∧ frz s3 v = some (d, s4) ∧ I (p ++ [x]) (acc ++ [d]) (s4.wp own)))
    (hl : xs.length ≤ sizeLine) : ∃ acc' s', compL own t tt te (xs.map f) [] s = some (acc', s') ∧ I xs acc' s' :=
  compL_inv I xs [] [] s h (fun p x q a s e _ hp => k p x q a s e hp) (by simpa using hl)
theorem while_inv {c : M Bool} {b : M Flo} (I : S → Prop) (μ : S → Nat) (Q : S → Prop) (k : ∀ s, I s → ∃ s1, (c s = .ok true s1 ∧ ∃ s2, (b s1 = .ok .nx s2 ∨ b s1 = .ok .ct s2) ∧ I s2 ∧ μ s2 < μ s) ∨ (c s = .ok false s1 ∧ Q s1)) :
    ∀ (n : Nat) (s : S), μ s ≤ n → I s → ∃ s', sWhile c b s = .ok .nx s' ∧ Q s'
  | 0, s, hn, h => by
    obtain ⟨s1, ⟨e, s2, _, _, hm⟩ | ⟨e, q⟩⟩ := k s h
    · omega
    · refine ⟨s1, ?_, q⟩
      rw [sWhile_eq, e]
      rfl
  | n + 1, s, hn, h => by
    obtain ⟨s1, ⟨e, s2, e2, hi, hm⟩ | ⟨e, q⟩⟩ := k s h
    · obtain ⟨s', e3, q⟩ := while_inv I μ Q k n s2 (by omega) hi
      refine ⟨s', ?_, q⟩
      rw [sWhile_eq, e]
      simp only [R.bind_ok, if_true]
      rcases e2 with e2 | e2
      · rw [e2]; exact e3
      · rw [e2]; exact e3
    · refine ⟨s1, ?_, q⟩
      rw [sWhile_eq, e]
      rfl

def out : R Flo → FR
  | .ok .nx s => .ret (.st .none) s.am
  | .ok (.rt v) s => toFV s v
  | .ex e am => .ex e am
  | _ => .bad
theorem runF_out {n : Nat} {m : M Flo} {ds : List Dt} {am : Option Src} : runF n m ds am = out (m (startS n ds am)) := by
  unfold runF out
  cases m (startS n ds am) with
  | ok f s => cases f <;> rfl
  | _ => rfl
@[simp] theorem out_nx {s : S} : out (.ok .nx s) = .ret (.st .none) s.am := rfl
@[simp] theorem out_rt {s : S} {v : Val} : out (.ok (.rt v) s) = toFV s v := rfl
@[simp] theorem out_ex {e : Ex} {am : Option Src} : out (.ex e am) = .ex e am := rfl
@[simp] theorem startS_eq {n : Nat} {ds : List Dt} {am : Option Src} : startS n ds am = ⟨ds.map Slot.fz ++ List.replicate (n - ds.length) Slot.no, am⟩ := rfl
theorem for_go {β : Type} {t : Tg} {b : M Flo} {α : Type} {f : α → Dt} {xs : List α} {s : S} {g : Flo → S → R β} {P : R β → Prop} (I : List α → S → Prop) (h : I [] s)
    (k : ∀ p x q s, xs = p ++ x :: q → I p s → ∃ s1, stT t (f x) s = some s1 ∧ ∃ s2, (b s1 = .ok .nx s2 ∨ b s1 = .ok .ct s2) ∧ I (p ++ [x]) s2) (q : ∀ s', I xs s' → P (g .nx s')) : P ((forL t b (xs.map f) s).bind g) := by
  obtain ⟨s', e, h'⟩ := for_inv I h k
  rw [e]
  exact q s' h'
theorem while_go {β : Type} {c : M Bool} {b : M Flo} {s : S} {g : Flo → S → R β} {P : R β → Prop} (I : S → Prop) (μ : S → Nat) (Q : S → Prop) (h : I s)
    (k : ∀ s, I s → ∃ s1, (c s = .ok true s1 ∧ ∃ s2, (b s1 = .ok .nx s2 ∨ b s1 = .ok .ct s2) ∧ I s2 ∧ μ s2 < μ s) ∨ (c s = .ok false s1 ∧ Q s1)) (q : ∀ s', Q s' → P (g .nx s')) : P ((sWhile c b s).bind g) := by
  obtain ⟨s', e, h'⟩ := while_inv I μ Q k _ s (Nat.le_refl _) h
  rw [e]
  exact q s' h'

def Goes (r : R Flo) (Q : S → Prop) : Prop := ∃ s2, (r = .ok .nx s2 ∨ r = .ok .ct s2) ∧ Q s2
@[simp] theorem goes_nx {s : S} {Q : S → Prop} : Goes (.ok .nx s) Q ↔ Q s := ⟨fun ⟨s2, h, q⟩ => by rcases h with h | h <;> cases h; exact q, fun q => ⟨s, .inl rfl, q⟩⟩
@[simp] theorem goes_ct {s : S} {Q : S → Prop} : Goes (.ok .ct s) Q ↔ Q s := ⟨fun ⟨s2, h, q⟩ => by rcases h with h | h <;> cases h; exact q, fun q => ⟨s, .inr rfl, q⟩⟩
theorem goes_of {r : R Flo} {s : S} {Q : S → Prop} (h : r = .ok .nx s) (q : Q s) : Goes r Q := ⟨s, .inl h, q⟩
theorem goes_q {r : R Flo} {Q : S → Prop} (h : ∀ Q' : S → Prop, (∀ s, Q s → Q' s) → Goes r Q') : Goes r Q := h Q fun _ h => h
theorem for_gx {β : Type} {t : Tg} {b : M Flo} {α : Type} {f : α → Dt} {xs : List α} {s : S} {g : Flo → S → R β} {P : R β → Prop} (I : List α → S → Prop) (h : I [] s)
    (k : ∀ p x q s, xs = p ++ x :: q → I p s → ∃ s1, stT t (f x) s = some s1 ∧ Goes (b s1) (I (p ++ [x]))) (q : ∀ s', I xs s' → P (g .nx s')) : P ((forL t b (xs.map f) s).bind g) := for_go I h k q
theorem while_gx {β : Type} {c : M Bool} {b : M Flo} {s : S} {g : Flo → S → R β} {P : R β → Prop} (I : S → Prop) (μ : S → Nat) (Q : S → Prop) (h : I s)
    (k : ∀ s, I s → ∃ s1, (c s = .ok true s1 ∧ Goes (b s1) fun s2 => I s2 ∧ μ s2 < μ s) ∨ (c s = .ok false s1 ∧ Q s1)) (q : ∀ s', Q s' → P (g .nx s')) : P ((sWhile c b s).bind g) :=
  while_go I μ Q h (fun s hs => by
    obtain ⟨s1, h1 | h1⟩ := k s hs
    · obtain ⟨e, s2, e2, i2, m2⟩ := h1
      exact ⟨s1, .inl ⟨e, s2, e2, i2, m2⟩⟩
    · exact ⟨s1, .inr h1⟩) q
@[simp] theorem wp_eq {e : List Slot} {am : Option Src} {own : List Nat} : (⟨e, am⟩ : S).wp own = ⟨wipeE e own, am⟩ := rfl
@[simp] theorem wipeE_cons {e : List Slot} {v : Nat} {vs : List Nat} : wipeE e (v :: vs) = (wipeE e vs).set v .no := by rw [wipeE]
@[simp] theorem resE_nil {e0 e : List Slot} : resE e0 e [] = e := by rw [resE]
@[simp] theorem resE_cons {e0 e : List Slot} {v : Nat} {vs : List Nat} : resE e0 e (v :: vs) = (resE e0 e vs).set v (kf e0[v]?) := by rw [resE]
@[simp] theorem kf_fz {d : Dt} : kf (some (.fz d)) = .fz d := rfl
@[simp] theorem kf_no : kf (some .no) = .no := rfl
@[simp] theorem kf_ow {d : Dt} : kf (some (.ow d)) = .no := rfl

theorem size_big : 1000000 ≤ sizeLine := by rw [sizeLine_eq]; decide
@[simp] theorem size_1 : 1 ≤ sizeLine := Nat.le_trans (by decide) size_big
@[simp] theorem size_2 : 2 ≤ sizeLine := Nat.le_trans (by decide) size_big
@[simp] theorem size_3 : 3 ≤ sizeLine := Nat.le_trans (by decide) size_big
@[simp] theorem size_4 : 4 ≤ sizeLine := Nat.le_trans (by decide) size_big
@[simp] theorem size_5 : 5 ≤ sizeLine := Nat.le_trans (by decide) size_big
@[simp] theorem size_6 : 6 ≤ sizeLine := Nat.le_trans (by decide) size_big
@[simp] theorem size_0 : 0 < sizeLine := Nat.le_trans (by decide) size_big

abbrev Pr := Int × Int
def pT (p : Pr) : Dt := .tuple [.int p.1, .int p.2]
def kT (p : Pr) : Dt × Dt := (.int p.1, .int p.2)
def getI (D : List Pr) (k : Int) : Option Int := (D.find? fun p => decide (p.1 = k)).map (·.2)
def putI (D : List Pr) (k n : Int) : List Pr := if D.any (fun p => decide (p.1 = k)) then D.map (fun p => if p.1 = k then (p.1, n) else p) else D ++ [(k, n)]
theorem kOf_kT {p : Pr} : kOf (kT p).1 = some (.inl p.1) := rfl
theorem inl_dec {a b : Int} : decide (some (Sum.inl a : Key) = some (Sum.inl b)) = decide (a = b) := by
  by_cases h : a = b
  · subst h; simp
  · have : ¬ (some (Sum.inl a : Key) = some (Sum.inl b)) := fun e => h (Sum.inl.inj (Option.some.inj e))
    simp [h]
@[simp] theorem dGet_kT (k : Int) : ∀ D : List Pr, dGet (D.map kT) (.inl k) = (getI D k).map PyData.int
  | [] => rfl
  | p :: D => by
    have ih := dGet_kT k D
    unfold dGet getI at ih ⊢
    rw [List.map_cons, List.find?_cons, List.find?_cons, kOf_kT, inl_dec]
    cases h : decide (p.1 = k) with
    | true => rfl
    | false => exact ih
theorem dHas_kT (k : Int) : ∀ D : List Pr, dHas (D.map kT) (.inl k) = D.any fun p => decide (p.1 = k)
  | [] => rfl
  | p :: D => by
    have ih := dHas_kT k D
    unfold dHas at ih ⊢
    rw [List.map_cons, List.any_cons, List.any_cons, kOf_kT, inl_dec, ih]
@[simp] theorem dPut_kT {D : List Pr} {k n : Int} : dPut (D.map kT) (.inl k) (.int n) = (putI D k n).map kT := by
  unfold dPut putI
  rw [dHas_kT]
  split
  · rw [List.map_map, List.map_map]
    refine List.map_congr_left fun p _ => ?_
    show (if kOf (kT p).1 = some (Sum.inl k) then ((kT p).1, PyData.int n) else kT p) = kT (if p.1 = k then (p.1, n) else p)
    rw [kOf_kT]
    by_cases h : p.1 = k
    · rw [if_pos h, if_pos (by rw [h])]; rfl
    · rw [if_neg h, if_neg (fun e => h (Sum.inl.inj (Option.some.inj e)))]
  · simp [kT, kD]
@[simp] theorem goodK_kT (D : List Pr) : goodK (D.map kT) = true := by
  unfold goodK
  rw [List.all_eq_true]
  intro x hx
  obtain ⟨p, _, rfl⟩ := List.mem_map.mp hx
  rfl
@[simp] theorem keysI_kT : ∀ D : List Pr, keysI (D.map kT) = some (D.map (·.1))
  | [] => rfl
  | p :: D => by
    rw [List.map_cons]
    show (keysI (D.map kT)).map (p.1 :: ·) = _
    rw [keysI_kT D]
    rfl
@[simp] theorem itemsD_kT (D : List Pr) : itemsD (D.map kT) = D.map pT := by
  unfold itemsD
  rw [List.map_map]
  rfl
@[simp] theorem dSorted2_kT (D : List Pr) : dSorted2 [.dict (D.map kT)] = some (.ow (.list ((srtI (D.map (·.1))).map PyData.int))) := by
  show (keysI (D.map kT)).map _ = _
  rw [keysI_kT]
  rfl
@[simp] theorem putIx_d {D : List Pr} {k n : Int} : putIx (.dict (D.map kT)) (.int k) (.int n) = if D.length < sizeLine then some (.dict ((putI D k n).map kT)) else none := by
  show (if (D.map kT).length < sizeLine then some (PyData.dict (dPut (D.map kT) (.inl k) (.int n))) else none) = _
  rw [dPut_kT, List.length_map]
theorem getI_some {D : List Pr} {k : Int} (h : k ∈ D.map (·.1)) : ∃ v, getI D k = some v := by
  induction D with
  | nil => simp at h
  | cons p D ih =>
    unfold getI at ih ⊢
    rw [List.find?_cons]
    by_cases e : p.1 = k
    · simp [e]
    · simp only [e, decide_false]
      refine ih ?_
      rw [List.map_cons, List.mem_cons] at h
      rcases h with h | h
      · exact absurd h.symm e
      · exact h
theorem mem_srtI {k : Int} {l : List Int} : k ∈ srtI l ↔ k ∈ l := (srtI_perm l).mem_iff
theorem length_srtI (l : List Int) : (srtI l).length = l.length := (srtI_perm l).length_eq
theorem noRef_pT (p : Pr) : noRef (pT p) = true := by simp [pT]
end Rf

namespace Rf

theorem snoc_ind {α : Type} {P : List α → Prop} (h0 : P []) (hs : ∀ T x, P T → P (T ++ [x])) (T : List α) : P T := by
  have : ∀ U : List α, P U.reverse := by
    intro U
    induction U with
    | nil => exact h0
    | cons x U ih => rw [List.reverse_cons]; exact hs _ _ ih
  have h := this T.reverse
  rwa [List.reverse_reverse] at h
def cf : List Pr → Int → Int
  | [], _ => 0
  | x :: T, p => (if x.1 = p then x.2 else 0) + cf T p
@[simp] theorem cf_nil (p : Int) : cf [] p = 0 := rfl
@[simp] theorem cf_cons (x : Pr) (T : List Pr) (p : Int) : cf (x :: T) p = (if x.1 = p then x.2 else 0) + cf T p := rfl
theorem cf_append (A B : List Pr) (p : Int) : cf (A ++ B) p = cf A p + cf B p := by
  induction A with
  | nil => simp
  | cons x A ih => simp [ih]; omega
theorem cf_zero {T : List Pr} {p : Int} (h : ∀ x ∈ T, x.1 ≠ p) : cf T p = 0 := by
  induction T with
  | nil => rfl
  | cons x T ih =>
    rw [cf_cons, if_neg (h x List.mem_cons_self), ih fun y hy => h y (List.mem_cons_of_mem _ hy)]
    rfl
theorem cf_shift (T : List Pr) (a c p : Int) : cf (T.map fun x => (a + x.1, c * x.2)) p = c * cf T (p - a) := by
  induction T with
  | nil => simp
  | cons x T ih =>
    rw [List.map_cons, cf_cons, cf_cons, ih, Int.mul_add]
    have : (a + x.1 = p) ↔ (x.1 = p - a) := by omega
    by_cases h : x.1 = p - a
    · simp [h, show a + (p - a) = p by omega]
    · rw [if_neg (fun e => h (this.mp e)), if_neg h]; simp
theorem cf_move (T : List Pr) (a p : Int) : cf (T.map fun x => (x.1 + a, x.2)) p = cf T (p - a) := by
  have := cf_shift T a 1 p
  rw [Int.one_mul] at this
  rw [← this]
  congr 1
  refine List.map_congr_left fun x _ => ?_
  simp
  omega
theorem cf_turn (T : List Pr) (p : Int) : cf (T.map fun x => (-x.1, x.2)) p = cf T (-p) := by
  induction T with
  | nil => rfl
  | cons x T ih =>
    rw [List.map_cons, cf_cons, cf_cons, ih]
    by_cases h : x.1 = -p
    · rw [if_pos (show -x.1 = p by omega), if_pos h]
    · rw [if_neg (show ¬ -x.1 = p by omega), if_neg h]
theorem cf_scale (T : List Pr) (c p : Int) : cf (T.map fun x => (x.1, c * x.2)) p = c * cf T p := by
  induction T with
  | nil => simp
  | cons x T ih =>
    rw [List.map_cons, cf_cons, cf_cons, ih, Int.mul_add]
    by_cases h : x.1 = p
    · simp [h]
    · simp [h]
theorem cf_map_num (T : List Pr) (g : Int → Int) (m p : Int) (h : ∀ n, g n % m = n % m) : cf (T.map fun x => (x.1, g x.2)) p % m = cf T p % m := by
  induction T with
  | nil => rfl
  | cons x T ih =>
    rw [List.map_cons, cf_cons, cf_cons, Int.add_emod, ih]
    by_cases e : x.1 = p
    · simp only [e, if_true]
      rw [h, ← Int.add_emod]
    · simp only [e, if_false]
      simp
def accD (r : Int → Int) (D : List Pr) (x : Pr) : List Pr := putI D x.1 (r ((getI D x.1).getD 0 + x.2))
def dictA (r : Int → Int) (T : List Pr) : List Pr := T.foldl (accD r) []
theorem dictA_snoc (r : Int → Int) (T : List Pr) (x : Pr) : dictA r (T ++ [x]) = accD r (dictA r T) x := by unfold dictA; simp
theorem dictA_append (r : Int → Int) (T U : List Pr) : dictA r (T ++ U) = U.foldl (accD r) (dictA r T) := by unfold dictA; simp
theorem getI_put (D : List Pr) (k n j : Int) : getI (putI D k n) j = if j = k then some n else getI D j := by
  unfold putI
  by_cases h : (D.any fun p => decide (p.1 = k)) = true
  · rw [if_pos h]
    induction D with
    | nil => simp at h
    | cons p D ih =>
      unfold getI at ih ⊢
      rw [List.map_cons, List.find?_cons, List.find?_cons]
      by_cases e : p.1 = k
      · by_cases ej : j = k
        · subst ej; simp [e]
        · have ej' : ¬ k = j := fun e => ej e.symm
          simp only [e, if_true, ej', decide_false, ej, if_false]
          by_cases h2 : (D.any fun p => decide (p.1 = k)) = true
          · rw [ih h2, if_neg ej]
          · have : (D.map fun p => if p.1 = k then (p.1, n) else p) = D := by
              refine (List.map_congr_left fun x hx => ?_).trans (List.map_id D)
              rw [if_neg]
              · rfl
              · intro ex
                exact h2 (List.any_eq_true.mpr ⟨x, hx, by simp [ex]⟩)
            rw [this]
      · have h2 : (D.any fun p => decide (p.1 = k)) = true := by simpa [e] using h
        simp only [e, if_false]
        by_cases ej : p.1 = j
        · have : ¬ j = k := fun x => e (by rw [ej, x])
          simp [ej, this]
        · simp only [ej, decide_false]
          exact ih h2
  · rw [if_neg h]
    unfold getI
    rw [List.find?_append]
    by_cases ej : j = k
    · subst ej
      have : (D.find? fun p => decide (p.1 = j)) = none := by
        rw [List.find?_eq_none]
        intro x hx
        simp
        intro ex
        exact h (List.any_eq_true.mpr ⟨x, hx, by simp [ex]⟩)
      rw [this]
      simp
    · have ej' : ¬ k = j := fun e => ej e.symm
      simp [ej, ej']
theorem keys_put (D : List Pr) (k n j : Int) : j ∈ (putI D k n).map (·.1) ↔ j = k ∨ j ∈ D.map (·.1) := by
  unfold putI
  by_cases h : (D.any fun p => decide (p.1 = k)) = true
  · rw [if_pos h]
    have e : (D.map fun p => if p.1 = k then (p.1, n) else p).map (·.1) = D.map (·.1) := by
      rw [List.map_map]
      refine List.map_congr_left fun x _ => ?_
      show (if x.1 = k then (x.1, n) else x).1 = x.1
      split <;> rfl
    rw [e]
    constructor
    · exact .inr
    · rintro (rfl | h2)
      · obtain ⟨x, hx, ex⟩ := List.any_eq_true.mp h
        exact List.mem_map.mpr ⟨x, hx, by simpa using ex⟩
      · exact h2
  · rw [if_neg h]
    simp
    constructor
    · rintro (h2 | h2)
      · exact .inr h2
      · exact .inl h2
    · rintro (h2 | h2)
      · exact .inr h2
      · exact .inl h2
theorem nodup_put {D : List Pr} (hD : (D.map (·.1)).Nodup) (k n : Int) : ((putI D k n).map (·.1)).Nodup := by
  unfold putI
  by_cases h : (D.any fun p => decide (p.1 = k)) = true
  · rw [if_pos h]
    have e : (D.map fun p => if p.1 = k then (p.1, n) else p).map (·.1) = D.map (·.1) := by
      rw [List.map_map]
      refine List.map_congr_left fun x _ => ?_
      show (if x.1 = k then (x.1, n) else x).1 = x.1
      split <;> rfl
    rw [e]; exact hD
  · rw [if_neg h, List.map_append, List.nodup_append]
    refine ⟨hD, by simp, fun a ha b hb => ?_⟩
    simp at hb
    subst hb
    rintro rfl
    obtain ⟨x, hx, ex⟩ := List.mem_map.mp ha
    exact h (List.any_eq_true.mpr ⟨x, hx, by simp [ex]⟩)
theorem length_put (D : List Pr) (k n : Int) : (putI D k n).length ≤ D.length + 1 := by
  unfold putI
  split
  · simp
  · simp
theorem length_dictA (r : Int → Int) (T : List Pr) : (dictA r T).length ≤ T.length := by
  refine snoc_ind (P := fun T => (dictA r T).length ≤ T.length) (by simp [dictA]) (fun T x ih => ?_) T
  rw [dictA_snoc, List.length_append]
  have := length_put (dictA r T) x.1 (r ((getI (dictA r T) x.1).getD 0 + x.2))
  unfold accD
  simp
  omega
theorem nodup_dictA (r : Int → Int) (T : List Pr) : ((dictA r T).map (·.1)).Nodup := by
  refine snoc_ind (P := fun T => ((dictA r T).map (·.1)).Nodup) (by simp [dictA]) (fun T x ih => ?_) T
  rw [dictA_snoc]
  exact nodup_put ih _ _
theorem keys_dictA (r : Int → Int) (T : List Pr) (k : Int) : k ∈ (dictA r T).map (·.1) ↔ k ∈ T.map (·.1) := by
  refine snoc_ind (P := fun T => k ∈ (dictA r T).map (·.1) ↔ k ∈ T.map (·.1)) (by simp [dictA]) (fun T x ih => ?_) T
  rw [dictA_snoc]
  unfold accD
  rw [keys_put, ih, List.map_append, List.mem_append]
  simp
  constructor
  · rintro (h | h)
    · exact .inr h
    · exact .inl h
  · rintro (h | h)
    · exact .inr h
    · exact .inl h
theorem getI_none {D : List Pr} {k : Int} (h : k ∉ D.map (·.1)) : getI D k = none := by
  unfold getI
  have : (D.find? fun p => decide (p.1 = k)) = none := by
    rw [List.find?_eq_none]
    intro x hx
    simp
    intro ex
    exact h (List.mem_map.mpr ⟨x, hx, ex⟩)
  rw [this]
  rfl
theorem val_id (T : List Pr) (k : Int) : (getI (dictA id T) k).getD 0 = cf T k := by
  refine snoc_ind (P := fun T => (getI (dictA id T) k).getD 0 = cf T k) rfl (fun T x ih => ?_) T
  rw [dictA_snoc, cf_append]
  unfold accD
  rw [getI_put]
  by_cases h : k = x.1
  · rw [if_pos h]
    subst h
    simp [ih]
  · rw [if_neg h, ih]
    simp [Ne.symm h]
theorem val_mod (m : Int) (T : List Pr) (k : Int) : (getI (dictA (· % m) T) k).getD 0 = cf T k % m := by
  refine snoc_ind (P := fun T => (getI (dictA (· % m) T) k).getD 0 = cf T k % m) (by simp [dictA, getI]) (fun T x ih => ?_) T
  rw [dictA_snoc, cf_append]
  unfold accD
  rw [getI_put]
  by_cases h : k = x.1
  · rw [if_pos h]
    subst h
    simp [ih]
  · rw [if_neg h, ih]
    simp [Ne.symm h]
def told (m : Int) (T : List Pr) : List Pr := ((srtI ((dictA (· % m) T).map (·.1))).filter fun k => !decide (cf T k % m = 0)).map fun k => (k, cf T k % m)
def Sorted (F : List Pr) : Prop := F.Pairwise fun a b => a.1 < b.1
def Form (m : Int) (F : List Pr) : Prop := Sorted F ∧ ∀ x ∈ F, 0 < x.2 ∧ x.2 < m
theorem strict_of {l : List Int} (h : l.Pairwise (· ≤ ·)) (n : l.Nodup) : l.Pairwise (· < ·) := by
  induction l with
  | nil => exact .nil
  | cons a l ih =>
    rw [List.pairwise_cons] at h ⊢
    rw [List.nodup_cons] at n
    refine ⟨fun b hb => ?_, ih h.2 n.2⟩
    have h1 := h.1 b hb
    have h2 : a ≠ b := fun e => n.1 (e ▸ hb)
    omega
theorem told_sorted (m : Int) (T : List Pr) : Sorted (told m T) := by
  unfold told Sorted
  rw [List.pairwise_map]
  refine List.Pairwise.sublist List.filter_sublist ?_
  exact strict_of (srtI_sorted _) ((srtI_perm _).nodup_iff.mpr (nodup_dictA _ T))
theorem mem_told {m : Int} {T : List Pr} {x : Pr} : x ∈ told m T ↔ x.2 = cf T x.1 % m ∧ x.2 ≠ 0 := by
  unfold told
  rw [List.mem_map]
  constructor
  · rintro ⟨k, hk, rfl⟩
    rw [List.mem_filter] at hk
    exact ⟨rfl, by simpa using hk.2⟩
  · rintro ⟨h1, h2⟩
    refine ⟨x.1, List.mem_filter.mpr ⟨?_, by rw [← h1]; simpa using h2⟩, by rw [← h1]⟩
    rw [mem_srtI, keys_dictA]
    apply Classical.byContradiction
    intro hn
    apply h2
    rw [h1, cf_zero fun y hy e => hn (List.mem_map.mpr ⟨y, hy, e⟩)]
    simp
theorem told_form {m : Int} (hm : 0 < m) (T : List Pr) : Form m (told m T) := by
  refine ⟨told_sorted m T, fun x hx => ?_⟩
  obtain ⟨h1, h2⟩ := mem_told.mp hx
  have := Int.emod_nonneg (cf T x.1) (by omega : m ≠ 0)
  have := Int.emod_lt_of_pos (cf T x.1) hm
  omega
theorem cf_mem {F : List Pr} (h : Sorted F) {x : Pr} (hx : x ∈ F) : cf F x.1 = x.2 := by
  induction F with
  | nil => simp at hx
  | cons y F ih =>
    have h' := List.pairwise_cons.mp h
    rw [cf_cons]
    rcases List.mem_cons.mp hx with rfl | hx
    · rw [if_pos rfl, cf_zero fun z hz e => by have := h'.1 z hz; omega]
      omega
    · have h1 := h'.1 x hx
      rw [if_neg (by omega), ih h'.2 hx]
      omega
theorem sorted_ext : ∀ {F G : List Pr}, Sorted F → Sorted G → (∀ x, x ∈ F ↔ x ∈ G) → F = G
  | [], [], _, _, _ => rfl
  | [], y :: G, _, _, h => by have := (h y).mpr List.mem_cons_self; simp at this
  | x :: F, [], _, _, h => by have := (h x).mp List.mem_cons_self; simp at this
  | x :: F, y :: G, hF, hG, h => by
    have hF' := List.pairwise_cons.mp hF
    have hG' := List.pairwise_cons.mp hG
    have e : x = y := by
      rcases List.mem_cons.mp ((h x).mp List.mem_cons_self) with e | hx
      · exact e
      · rcases List.mem_cons.mp ((h y).mpr List.mem_cons_self) with e | hy
        · exact e.symm
        · have h1 := hG'.1 x hx
          have h2 := hF'.1 y hy
          omega
    subst e
    congr 1
    refine sorted_ext hF'.2 hG'.2 fun z => ?_
    constructor
    · intro hz
      rcases List.mem_cons.mp ((h z).mp (List.mem_cons_of_mem _ hz)) with rfl | q
      · have := hF'.1 z hz; omega
      · exact q
    · intro hz
      rcases List.mem_cons.mp ((h z).mpr (List.mem_cons_of_mem _ hz)) with rfl | q
      · have := hG'.1 z hz; omega
      · exact q
theorem told_congr {m : Int} {T U : List Pr} (h : ∀ p, cf T p % m = cf U p % m) : told m T = told m U :=
  sorted_ext (told_sorted m T) (told_sorted m U) fun x => by rw [mem_told, mem_told, h]
theorem cf_told {m : Int} (T : List Pr) (p : Int) : cf (told m T) p = cf T p % m := by
  by_cases h : cf T p % m = 0
  · rw [h]
    refine cf_zero fun x hx e => ?_
    have := mem_told.mp hx
    rw [e] at this
    omega
  · exact cf_mem (told_sorted m T) (x := (p, cf T p % m)) (mem_told.mpr ⟨rfl, h⟩)
theorem told_self {m : Int} {F : List Pr} (h : Form m F) : told m F = F := by
  refine sorted_ext (told_sorted m F) h.1 fun x => ?_
  rw [mem_told]
  constructor
  · rintro ⟨h1, h2⟩
    apply Classical.byContradiction
    intro hn
    by_cases hk : ∃ y ∈ F, y.1 = x.1
    · obtain ⟨y, hy, e⟩ := hk
      have := cf_mem h.1 hy
      have hy2 := h.2 y hy
      rw [← e, this, Int.emod_eq_of_lt (by omega) hy2.2] at h1
      exact hn (by rw [show x = y from Prod.ext e.symm h1]; exact hy)
    · rw [cf_zero fun y hy e => hk ⟨y, hy, e⟩] at h1
      simp at h1
      exact h2 h1
  · intro hx
    have hx2 := h.2 x hx
    rw [cf_mem h.1 hx, Int.emod_eq_of_lt (by omega) hx2.2]
    exact ⟨rfl, by omega⟩
theorem told_told (m : Int) (T : List Pr) : told m (told m T) = told m T := told_congr fun p => by rw [cf_told, Int.emod_emod]
theorem told_part {m d : Int} (hd : d ∣ m) (T : List Pr) : told d (told m T) = told d T := told_congr fun p => by rw [cf_told, Int.emod_emod_of_dvd _ hd]
theorem told_within {m lo hi : Int} {T : List Pr} (h : ∀ x ∈ T, lo ≤ x.1 ∧ x.1 ≤ hi) : ∀ x ∈ told m T, lo ≤ x.1 ∧ x.1 ≤ hi := fun x hx => by
  obtain ⟨h1, h2⟩ := mem_told.mp hx
  apply Classical.byContradiction
  intro hn
  apply h2
  rw [h1, cf_zero fun y hy e => hn (by rw [← e]; exact h y hy)]
  simp
theorem told_length (m : Int) (T : List Pr) : (told m T).length ≤ T.length := by
  unfold told
  rw [List.length_map]
  refine Nat.le_trans (List.length_filter_le _ _) ?_
  rw [length_srtI, List.length_map]
  exact length_dictA _ T
end Rf

namespace Rf

def prodL (A B : List Pr) : List Pr := A.flatMap fun a => B.map fun b => (a.1 + b.1, a.2 * b.2)
theorem prodL_nil (B : List Pr) : prodL [] B = [] := rfl
theorem prodL_cons (a : Pr) (A B : List Pr) : prodL (a :: A) B = (B.map fun b => (a.1 + b.1, a.2 * b.2)) ++ prodL A B := by simp [prodL]
theorem prodL_append (A A' B : List Pr) : prodL (A ++ A') B = prodL A B ++ prodL A' B := by simp [prodL]
theorem length_prodL (A B : List Pr) : (prodL A B).length = A.length * B.length := by
  induction A with
  | nil => simp [prodL]
  | cons a A ih => rw [prodL_cons, List.length_append, List.length_map, ih, List.length_cons, Nat.succ_mul]; omega
def sumA (A : List Pr) (f : Pr → Int) : Int := (A.map f).sum
theorem cf_prod (A B : List Pr) (p : Int) : cf (prodL A B) p = sumA A fun a => a.2 * cf B (p - a.1) := by
  induction A with
  | nil => rfl
  | cons a A ih =>
    rw [prodL_cons, cf_append, cf_shift, ih]
    simp [sumA]
theorem cf_prod_nil (A : List Pr) (p : Int) : cf (prodL A []) p = 0 := by
  induction A with
  | nil => rfl
  | cons a A ih => rw [prodL_cons, cf_append, ih]; rfl
theorem cf_prod_cons (A : List Pr) (b : Pr) (B : List Pr) (p : Int) : cf (prodL A (b :: B)) p = cf (A.map fun a => (b.1 + a.1, b.2 * a.2)) p + cf (prodL A B) p := by
  induction A with
  | nil => simp [prodL]
  | cons a A ih =>
    rw [prodL_cons, prodL_cons, cf_append, cf_append, ih, List.map_cons, List.map_cons, cf_cons, cf_cons, Int.add_comm a.1 b.1, Int.mul_comm a.2 b.2]
    omega
theorem cf_prod_comm (A B : List Pr) (p : Int) : cf (prodL A B) p = cf (prodL B A) p := by
  induction A with
  | nil => rw [cf_prod_nil]; rfl
  | cons a A ih => rw [prodL_cons, cf_append, cf_prod_cons, ih]
theorem map_shift_prod (a : Pr) (B C : List Pr) : prodL (B.map fun b => (a.1 + b.1, a.2 * b.2)) C = (prodL B C).map fun b => (a.1 + b.1, a.2 * b.2) := by
  induction B with
  | nil => rfl
  | cons b B ih =>
    rw [List.map_cons, prodL_cons, prodL_cons, List.map_append, ih, List.map_map]
    congr 1
    refine List.map_congr_left fun c _ => ?_
    show (a.1 + b.1 + c.1, a.2 * b.2 * c.2) = (a.1 + (b.1 + c.1), a.2 * (b.2 * c.2))
    rw [Int.add_assoc, Int.mul_assoc]
theorem prodL_assoc (A B C : List Pr) : prodL (prodL A B) C = prodL A (prodL B C) := by
  induction A with
  | nil => rfl
  | cons a A ih => rw [prodL_cons, prodL_cons, prodL_append, ih, map_shift_prod]
def Eqm (m : Int) (A B : List Pr) : Prop := ∀ p, cf A p % m = cf B p % m
theorem Eqm.refl (m : Int) (A : List Pr) : Eqm m A A := fun _ => rfl
theorem Eqm.symm {m : Int} {A B : List Pr} (h : Eqm m A B) : Eqm m B A := fun p => (h p).symm
theorem Eqm.trans {m : Int} {A B C : List Pr} (h : Eqm m A B) (k : Eqm m B C) : Eqm m A C := fun p => (h p).trans (k p)
theorem Eqm.told {m : Int} {A B : List Pr} (h : Eqm m A B) : Rf.told m A = Rf.told m B := told_congr h
theorem eqm_told (m : Int) (A : List Pr) : Eqm m (Rf.told m A) A := fun p => by rw [cf_told, Int.emod_emod]
theorem eqm_of_told {m : Int} {A B : List Pr} (h : Rf.told m A = Rf.told m B) : Eqm m A B := (eqm_told m A).symm.trans (h ▸ eqm_told m B)
theorem Eqm.part {m d : Int} (hd : d ∣ m) {A B : List Pr} (h : Eqm m A B) : Eqm d A B := fun p => by
  rw [← Int.emod_emod_of_dvd (cf A p) hd, h p, Int.emod_emod_of_dvd _ hd]
theorem Eqm.append {m : Int} {A A' B B' : List Pr} (h : Eqm m A A') (k : Eqm m B B') : Eqm m (A ++ B) (A' ++ B') := fun p => by
  rw [cf_append, cf_append, Int.add_emod, h p, k p, ← Int.add_emod]
theorem Eqm.prod_right {m : Int} {B B' : List Pr} (h : Eqm m B B') (A : List Pr) : Eqm m (prodL A B) (prodL A B') := fun p => by
  rw [cf_prod, cf_prod]
  induction A with
  | nil => rfl
  | cons a A ih =>
    simp only [sumA, List.map_cons, List.sum_cons] at ih ⊢
    rw [Int.add_emod, ih, Int.mul_emod, h, ← Int.mul_emod, ← Int.add_emod]
theorem eqm_comm (m : Int) (A B : List Pr) : Eqm m (prodL A B) (prodL B A) := fun p => by rw [cf_prod_comm]
theorem Eqm.prod_left {m : Int} {A A' : List Pr} (h : Eqm m A A') (B : List Pr) : Eqm m (prodL A B) (prodL A' B) :=
  (eqm_comm m A B).trans ((h.prod_right B).trans (eqm_comm m B A'))
theorem Eqm.prod {m : Int} {A A' B B' : List Pr} (h : Eqm m A A') (k : Eqm m B B') : Eqm m (prodL A B) (prodL A' B') := (h.prod_left B).trans (k.prod_right A')
theorem Eqm.turn {m : Int} {A B : List Pr} (h : Eqm m A B) : Eqm m (A.map fun x => (-x.1, x.2)) (B.map fun x => (-x.1, x.2)) := fun p => by rw [cf_turn, cf_turn, h]
theorem Eqm.move {m : Int} {A B : List Pr} (h : Eqm m A B) (a : Int) : Eqm m (A.map fun x => (x.1 + a, x.2)) (B.map fun x => (x.1 + a, x.2)) := fun p => by rw [cf_move, cf_move, h]
def powL (F : List Pr) : Nat → List Pr
  | 0 => [(0, 1)]
  | n + 1 => prodL F (powL F n)
theorem eqm_one (m : Int) (A : List Pr) : Eqm m (prodL [(0, 1)] A) A := fun p => by
  rw [cf_prod]
  simp [sumA]
theorem eqm_one' (m : Int) (A : List Pr) : Eqm m (prodL A [(0, 1)]) A := (eqm_comm m _ _).trans (eqm_one m A)
theorem eqm_pow_add (m : Int) (F : List Pr) (a b : Nat) : Eqm m (powL F (a + b)) (prodL (powL F a) (powL F b)) := by
  induction a with
  | zero => rw [Nat.zero_add]; exact (eqm_one m _).symm
  | succ a ih =>
    rw [Nat.succ_add]
    show Eqm m (prodL F (powL F (a + b))) (prodL (prodL F (powL F a)) (powL F b))
    rw [prodL_assoc]
    exact ih.prod_right F
theorem Eqm.pow {m : Int} {A B : List Pr} (h : Eqm m A B) : ∀ n, Eqm m (powL A n) (powL B n)
  | 0 => .refl m _
  | n + 1 => h.prod (Eqm.pow h n)
theorem eqm_pow_mul (m : Int) (F : List Pr) (a b : Nat) : Eqm m (powL (powL F a) b) (powL F (a * b)) := by
  induction b with
  | zero => exact .refl m _
  | succ b ih =>
    show Eqm m (prodL (powL F a) (powL (powL F a) b)) _
    rw [Nat.mul_succ, Nat.add_comm]
    exact (ih.prod_right _).trans (eqm_pow_add m F a (a * b)).symm
def Within (lo hi : Int) (F : List Pr) : Prop := ∀ x ∈ F, lo ≤ x.1 ∧ x.1 ≤ hi
theorem Within.prod {a b c d : Int} {A B : List Pr} (h : Within a b A) (k : Within c d B) : Within (a + c) (b + d) (prodL A B) := fun x hx => by
  unfold prodL at hx
  obtain ⟨y, hy, hx⟩ := List.mem_flatMap.mp hx
  obtain ⟨z, hz, rfl⟩ := List.mem_map.mp hx
  have := h y hy
  have := k z hz
  show a + c ≤ y.1 + z.1 ∧ y.1 + z.1 ≤ b + d
  omega
theorem Within.pow {a b : Int} {F : List Pr} (h : Within a b F) : ∀ n : Nat, Within (n * a) (n * b) (powL F n)
  | 0 => fun x hx => by
    simp [powL] at hx
    subst hx
    simp
  | n + 1 => by
    have := h.prod (Within.pow h n)
    have e1 : ((n + 1 : Nat) : Int) * a = a + n * a := by rw [Int.natCast_add, Int.add_mul]; omega
    have e2 : ((n + 1 : Nat) : Int) * b = b + n * b := by rw [Int.natCast_add, Int.add_mul]; omega
    rw [e1, e2]
    exact this
theorem Within.told {lo hi m : Int} {F : List Pr} (h : Within lo hi F) : Within lo hi (Rf.told m F) := told_within h
theorem Within.append {lo hi : Int} {A B : List Pr} (h : Within lo hi A) (k : Within lo hi B) : Within lo hi (A ++ B) := fun x hx => by
  rcases List.mem_append.mp hx with hx | hx
  · exact h x hx
  · exact k x hx
theorem Within.mono {lo hi lo' hi' : Int} {A : List Pr} (h : Within lo hi A) (h1 : lo' ≤ lo) (h2 : hi ≤ hi') : Within lo' hi' A := fun x hx => by
  have := h x hx
  omega
def spanL : List Pr → Int
  | [] => 0
  | x :: F => ((x :: F).getLast (by simp)).1 - x.1 + 1
theorem span_within {lo hi : Int} {F : List Pr} (h : Within lo hi F) (w : lo ≤ hi + 1) : spanL F ≤ hi - lo + 1 := by
  cases F with
  | nil => show (0 : Int) ≤ _; omega
  | cons x F =>
    have h1 := h x List.mem_cons_self
    have h2 := h _ (List.getLast_mem (l := x :: F) (by simp))
    show ((x :: F).getLast (by simp)).1 - x.1 + 1 ≤ _
    omega
end Rf

namespace Rf
open PySem PySem.Spec PyProof.Rows
noncomputable def m__law_source : M Flo := sSeq (sSet 1 (eC (.int 11))) (sSeq (sFor (iScr (eVar 0)) (.nm 2) (sSet 1 (eBin dMod (eCall dInt (aCons (eBin dAdd (eBin dAdd (eBin dMul (eVar 1) (eC (.int 69069))) (eBin dMul (eVar 2) (eC (.int 31)))) (eC (.int 5))) (aNil))) (eC (.int 2147483629))))) (sSrcRet (eRev (eComp [2] (iScr (eVar 0)) (.nm 2) (bYes) (eCall dAbs (aCons (eVar 2) (aNil))))) (eVar 1)))
noncomputable def f__law_source : FnD := runF 3 m__law_source
noncomputable def m__law_pick : M Flo := sSeq (sWhile (bAnd (tst (eBin dGt (eVar 1) (eC (.int 1)))) (bAnd (tst (eBin dLt (eSrcGet "left" (eVar 0)) (eC (.int 2)))) (tst (eBin dGt (eSrcLen (eVar 0)) (eC (.int 0)))))) (sSrcPop (eVar 0) (eVar 0))) (sSeq (sSet 2 (eSrcGet "left" (eVar 0))) (sSeq (sIf (bOr (tst (eBin dLt (eVar 1) (eC (.int 2)))) (tst (eBin dGt (eVar 2) (eC (.int 1))))) (sSeq (sSrcSet "left" (eBin dDiv (eVar 2) (eCall dMax (aCons (eC (.int 1)) (aCons (eVar 1) (aNil))))) (eVar 0)) (sRet (eBin dMod (eCall dInt (aCons (eVar 2) (aNil))) (eCall dMax (aCons (eC (.int 1)) (aCons (eVar 1) (aNil))))))) (sNx)) (sSeq (sSrcSet "turn" (eBin dAdd (eSrcGet "turn" (eVar 0)) (eC (.int 1))) (eVar 0)) (sSeq (sSet 3 (eBin dMod (eCall dInt (aCons (eBin dAdd (eSrcGet "mixed" (eVar 0)) (eBin dMul (eSrcGet "turn" (eVar 0)) (eC (.int 104729)))) (aNil))) (eC (.int 998244353)))) (sSeq (sSet 3 (eBin dMod (eCall dInt (aCons (eBin dAdd (eBin dMul (eVar 3) (eVar 3)) (eBin dMul (eSrcGet "turn" (eVar 0)) (eC (.int 17)))) (aNil))) (eC (.int 2147483647)))) (sSeq (sSrcSet "mixed" (eVar 3) (eVar 0)) (sRet (eBin dMod (eCall dInt (aCons (eBin dDiv (eVar 3) (eC (.int 16))) (aNil))) (eVar 1)))))))))
noncomputable def f__law_pick : FnD := runF 4 m__law_pick
noncomputable def m__law_of : M Flo := sRet (eBin dIxD (eVar 1) (eFn f__law_pick (aCons (eVar 0) (aCons (eCall dLen (aCons (eVar 1) (aNil))) (aNil)))))
noncomputable def f__law_of : FnD := runF 2 m__law_of
noncomputable def m_run_behind : M Flo := sSeq (sWhile (bAnd (tst (eBin dLt (eVar 1) (eCall dLen (aCons (eVar 0) (aNil))))) (tst (eBin dIn (eBin dIxD (eVar 0) (eVar 1)) (eVar 2)))) (sAug 1 dAddI (eC (.int 1)))) (sRet (eVar 1))
noncomputable def f_run_behind : FnD := runF 3 m_run_behind
noncomputable def m_things_ahead : M Flo := sRet (eCall dDict (aCons (eComp [3] (iSeq (eSl (eVar 0) none (some (eVar 1)))) (.nm 3) (tst (eBin dIn (eBin dIxD (eVar 3) (eC (.int 0))) (eVar 2))) (eTup (aCons (eBin dIxD (eVar 3) (eC (.int 1))) (aCons (eVar 3) (aNil))))) (aNil)))
noncomputable def f_things_ahead : FnD := runF 4 m_things_ahead
noncomputable def m_told_promises : M Flo := sRet (eFn f_things_ahead (aCons (eVar 0) (aCons (eVar 1) (aCons (eTup (aCons (eC (.str "promise")) (aNil))) (aNil)))))
noncomputable def f_told_promises : FnD := runF 2 m_told_promises
noncomputable def m_primes_of : M Flo := sSeq (sPar [1, 2, 3] (aCons (eLst (aNil)) (aCons (eVar 0) (aCons (eC (.int 2)) (aNil))))) (sSeq (sWhile (tst (eBin dGt (eVar 2) (eC (.int 1)))) (sIf (tst (eBin dNe (eBin dMod (eVar 2) (eVar 3)) (eC (.int 0)))) (sAug 3 dAddI (eC (.int 1))) (sSeq (sDrop (eMut fExt (eVar 1) (aCons (eIf (tst (eBin dNotIn (eVar 3) (eVar 1))) (eLst (aCons (eVar 3) (aNil))) (eLst (aNil))) (aNil)))) (sAug 2 dDiv (eVar 3))))) (sRet (eCall dTuple (aCons (eVar 1) (aNil)))))
noncomputable def f_primes_of : FnD := runF 4 m_primes_of
noncomputable def m_is_prime : M Flo := sRet (eBin dEq (eFn f_primes_of (aCons (eVar 0) (aNil))) (eTup (aCons (eVar 0) (aNil))))
noncomputable def f_is_prime : FnD := runF 1 m_is_prime
noncomputable def m_prime_powers : M Flo := sSeq (sSet 1 (eLst (aNil))) (sSeq (sFor (iSeq (eFn f_primes_of (aCons (eVar 0) (aNil)))) (.nm 2) (sSeq (sPar [3, 4] (aCons (eC (.int 0)) (aCons (eVar 0) (aNil)))) (sSeq (sWhile (tst (eBin dEq (eBin dMod (eVar 4) (eVar 2)) (eC (.int 0)))) (sPar [3, 4] (aCons (eBin dAdd (eVar 3) (eC (.int 1))) (aCons (eBin dDiv (eVar 4) (eVar 2)) (aNil))))) (sDrop (eMut fApp (eVar 1) (aCons (eTup (aCons (eVar 2) (aCons (eVar 3) (aNil)))) (aNil))))))) (sRet (eCall dTuple (aCons (eVar 1) (aNil)))))
noncomputable def f_prime_powers : FnD := runF 5 m_prime_powers
noncomputable def m_number_taken : M Flo := sSeq (sSet 2 (eC (.int 1))) (sSeq (sFor (iRange1 (aCons (eVar 1) (aNil))) (.nm 3) (sAug 2 dMulI (eVar 0))) (sRet (eVar 2)))
noncomputable def f_number_taken : FnD := runF 4 m_number_taken
noncomputable def m_rest_taken : M Flo := sSeq (sPar [3, 4, 5] (aCons (eBin dMod (eC (.int 1)) (eVar 2)) (aCons (eBin dMod (eVar 0) (eVar 2)) (aCons (eVar 1) (aNil))))) (sSeq (sWhile (tst (eBin dGt (eVar 5) (eC (.int 0)))) (sSeq (sIf (tst (eBin dEq (eBin dMod (eVar 5) (eC (.int 2))) (eC (.int 1)))) (sSet 3 (eBin dMod (eBin dMul (eVar 3) (eVar 4)) (eVar 2))) (sNx)) (sPar [4, 5] (aCons (eBin dMod (eBin dMul (eVar 4) (eVar 4)) (eVar 2)) (aCons (eBin dDiv (eVar 5) (eC (.int 2))) (aNil)))))) (sRet (eVar 3)))
noncomputable def f_rest_taken : FnD := runF 6 m_rest_taken
noncomputable def m_rest_undone : M Flo := sSeq (sPar [2, 3, 4, 5] (aCons (eBin dMod (eVar 0) (eVar 1)) (aCons (eVar 1) (aCons (eC (.int 1)) (aCons (eC (.int 0)) (aNil)))))) (sSeq (sWhile (tst (eBin dGt (eVar 3) (eC (.int 0)))) (sSeq (sSet 6 (eBin dDiv (eVar 2) (eVar 3))) (sPar [2, 3, 4, 5] (aCons (eVar 3) (aCons (eBin dSub (eVar 2) (eBin dMul (eVar 6) (eVar 3))) (aCons (eVar 5) (aCons (eBin dSub (eVar 4) (eBin dMul (eVar 6) (eVar 5))) (aNil)))))))) (sRet (eIf (tst (eBin dEq (eVar 2) (eC (.int 1)))) (eBin dMod (eVar 4) (eVar 1)) (eC .none))))
noncomputable def f_rest_undone : FnD := runF 7 m_rest_undone
noncomputable def m_rests_together : M Flo := sSeq (sPar [1, 2] (aCons (eC (.int 0)) (aCons (eC (.int 1)) (aNil)))) (sSeq (sFor (iSeq (eVar 0)) (.tp [(.nm 3), (.nm 4)]) (sSeq (sSet 5 (eBin dMod (eBin dMul (eBin dSub (eVar 4) (eVar 1)) (eFn f_rest_undone (aCons (eVar 2) (aCons (eVar 3) (aNil))))) (eVar 3))) (sPar [1, 2] (aCons (eBin dAdd (eVar 1) (eBin dMul (eVar 2) (eVar 5))) (aCons (eBin dMul (eVar 2) (eVar 3)) (aNil)))))) (sRet (eVar 1)))
noncomputable def f_rests_together : FnD := runF 6 m_rests_together
noncomputable def m_figures_told : M Flo := sSeq (sPar [2, 3] (aCons (eLst (aNil)) (aCons (eVar 0) (aNil)))) (sSeq (sWhile (tst (eBin dGt (eVar 3) (eC (.int 0)))) (sSeq (sDrop (eMut fApp (eVar 2) (aCons (eBin dMod (eVar 3) (eVar 1)) (aNil)))) (sAug 3 dDiv (eVar 1)))) (sRet (eCall dTuple (aCons (eVar 2) (aNil)))))
noncomputable def f_figures_told : FnD := runF 4 m_figures_told
noncomputable def m_poly_least : M Flo := sSeq (sSet 2 (eComp [3] (iSeq (eVar 1)) (.nm 3) (bYes) (eBin dMod (eVar 3) (eVar 0)))) (sSeq (sWhile (bAnd (tst (eBin dNe (eVar 2) (eLst (aNil)))) (tst (eBin dEq (eBin dIxD (eVar 2) (eUn dNeg (eC (.int 1)))) (eC (.int 0))))) (sDrop (eMut fPop (eVar 2) aNil))) (sRet (eCall dTuple (aCons (eVar 2) (aNil)))))
noncomputable def f_poly_least : FnD := runF 4 m_poly_least
noncomputable def m_poly_gap : M Flo := sRet (eFn f_poly_least (aCons (eVar 0) (aCons (eBin dAdd (eBin dAdd (eLst (aCons (eUn dNeg (eC (.int 1))) (aNil))) (eBin dMul (eLst (aCons (eC (.int 0)) (aNil))) (eBin dSub (eVar 1) (eC (.int 1))))) (eLst (aCons (eC (.int 1)) (aNil)))) (aNil))))
noncomputable def f_poly_gap : FnD := runF 2 m_poly_gap
noncomputable def m_poly_times : M Flo := sRet (eFn f_poly_least (aCons (eVar 0) (aCons (eComp [3] (iSeq (eVar 1)) (.nm 3) (bYes) (eBin dMul (eVar 2) (eVar 3))) (aNil))))
noncomputable def f_poly_times : FnD := runF 4 m_poly_times
noncomputable def m_poly_product : M Flo := sSeq (sSet 3 (eBin dMul (eLst (aCons (eC (.int 0)) (aNil))) (eBin dAdd (eCall dLen (aCons (eVar 1) (aNil))) (eCall dLen (aCons (eVar 2) (aNil)))))) (sSeq (sFor (iEnum (aCons (eVar 1) (aNil))) (.tp [(.nm 4), (.nm 5)]) (sFor (iEnum (aCons (eVar 2) (aNil))) (.tp [(.nm 6), (.nm 7)]) (sAugIx dAddI (eVar 3) (eBin dAdd (eVar 4) (eVar 6)) (eBin dMul (eVar 5) (eVar 7))))) (sRet (eFn f_poly_least (aCons (eVar 0) (aCons (eVar 3) (aNil))))))
noncomputable def f_poly_product : FnD := runF 8 m_poly_product
noncomputable def m_poly_parted : M Flo := sSeq (sPar [3, 4] (aCons (eCall dList (aCons (eVar 1) (aNil))) (aCons (eBin dMul (eLst (aCons (eC (.int 0)) (aNil))) (eCall dMax (aCons (eC (.int 0)) (aCons (eBin dAdd (eBin dSub (eCall dLen (aCons (eVar 1) (aNil))) (eCall dLen (aCons (eVar 2) (aNil)))) (eC (.int 1))) (aNil))))) (aNil)))) (sSeq (sSet 5 (eFn f_rest_undone (aCons (eBin dIxD (eVar 2) (eUn dNeg (eC (.int 1)))) (aCons (eVar 0) (aNil))))) (sSeq (sFor (iRange3 (aCons (eBin dSub (eCall dLen (aCons (eVar 1) (aNil))) (eCall dLen (aCons (eVar 2) (aNil)))) (aCons (eUn dNeg (eC (.int 1))) (aCons (eUn dNeg (eC (.int 1))) (aNil))))) (.nm 6) (sSeq (sSet 7 (eBin dMod (eBin dMul (eBin dIxD (eVar 3) (eBin dSub (eBin dAdd (eVar 6) (eCall dLen (aCons (eVar 2) (aNil)))) (eC (.int 1)))) (eVar 5)) (eVar 0))) (sSeq (sSetIx (eVar 7) (eVar 4) (eVar 6)) (sFor (iEnum (aCons (eVar 2) (aNil))) (.tp [(.nm 8), (.nm 9)]) (sAugIx dSub (eVar 3) (eBin dAdd (eVar 6) (eVar 8)) (eBin dMul (eVar 7) (eVar 9))))))) (sRet (eTup (aCons (eFn f_poly_least (aCons (eVar 0) (aCons (eVar 4) (aNil)))) (aCons (eFn f_poly_least (aCons (eVar 0) (aCons (eVar 3) (aNil)))) (aNil)))))))
noncomputable def f_poly_parted : FnD := runF 10 m_poly_parted
noncomputable def m_poly_plain : M Flo := sRet (eIf (tst (eBin dEq (eVar 1) (eTup (aNil)))) (eVar 1) (eFn f_poly_times (aCons (eVar 0) (aCons (eVar 1) (aCons (eFn f_rest_undone (aCons (eBin dIxD (eVar 1) (eUn dNeg (eC (.int 1)))) (aCons (eVar 0) (aNil)))) (aNil))))))
noncomputable def f_poly_plain : FnD := runF 2 m_poly_plain
noncomputable def m_poly_rest : M Flo := sRet (eBin dIxD (eFn f_poly_parted (aCons (eVar 0) (aCons (eVar 1) (aCons (eVar 2) (aNil))))) (eC (.int 1)))
noncomputable def f_poly_rest : FnD := runF 3 m_poly_rest
noncomputable def m_poly_taken : M Flo := sSeq (sPar [4, 5, 6] (aCons (eFn f_poly_rest (aCons (eVar 0) (aCons (eTup (aCons (eC (.int 1)) (aNil))) (aCons (eVar 3) (aNil))))) (aCons (eFn f_poly_rest (aCons (eVar 0) (aCons (eVar 1) (aCons (eVar 3) (aNil))))) (aCons (eVar 2) (aNil))))) (sSeq (sWhile (tst (eBin dGt (eVar 6) (eC (.int 0)))) (sSeq (sIf (tst (eBin dEq (eBin dMod (eVar 6) (eC (.int 2))) (eC (.int 1)))) (sSet 4 (eFn f_poly_rest (aCons (eVar 0) (aCons (eFn f_poly_product (aCons (eVar 0) (aCons (eVar 4) (aCons (eVar 5) (aNil))))) (aCons (eVar 3) (aNil)))))) (sNx)) (sPar [5, 6] (aCons (eFn f_poly_rest (aCons (eVar 0) (aCons (eFn f_poly_product (aCons (eVar 0) (aCons (eVar 5) (aCons (eVar 5) (aNil))))) (aCons (eVar 3) (aNil))))) (aCons (eBin dDiv (eVar 6) (eC (.int 2))) (aNil)))))) (sRet (eVar 4)))
noncomputable def f_poly_taken : FnD := runF 7 m_poly_taken
noncomputable def m_poly_common : M Flo := sSeq (sPar [3, 4] (aCons (eVar 1) (aCons (eVar 2) (aNil)))) (sSeq (sWhile (tst (eBin dNe (eVar 4) (eTup (aNil)))) (sPar [3, 4] (aCons (eVar 4) (aCons (eBin dIxD (eFn f_poly_parted (aCons (eVar 0) (aCons (eVar 3) (aCons (eVar 4) (aNil))))) (eC (.int 1))) (aNil))))) (sRet (eFn f_poly_plain (aCons (eVar 0) (aCons (eVar 3) (aNil))))))
noncomputable def f_poly_common : FnD := runF 5 m_poly_common
noncomputable def m_rule_told : M Flo := sSeq (sSet 2 (eDict0)) (sSeq (sFor (iSeq (eVar 1)) (.tp [(.nm 3), (.nm 4)]) (sSetIx (eBin dMod (eBin dAdd (eGet2 (eVar 2) (eVar 3) (eC (.int 0))) (eVar 4)) (eVar 0)) (eVar 2) (eVar 3))) (sRet (eTup (aCons (eVar 0) (aCons (eCall dTuple (aCons (eComp [3] (iSeq (eCall dSorted2 (aCons (eVar 2) (aNil)))) (.nm 3) (tst (eBin dNe (eBin dIxD (eVar 2) (eVar 3)) (eC (.int 0)))) (eTup (aCons (eVar 3) (aCons (eBin dIxD (eVar 2) (eVar 3)) (aNil))))) (aNil))) (aNil))))))
noncomputable def f_rule_told : FnD := runF 5 m_rule_told
noncomputable def m_rule_one : M Flo := sRet (eTup (aCons (eVar 0) (aCons (eTup (aCons (eTup (aCons (eC (.int 0)) (aCons (eC (.int 1)) (aNil)))) (aNil))) (aNil))))
noncomputable def f_rule_one : FnD := runF 1 m_rule_one
noncomputable def m_span_of : M Flo := sSeq (sSet 1 (eBin dIxD (eVar 0) (eC (.int 1)))) (sRet (eIf (tst (eBin dNe (eVar 1) (eTup (aNil)))) (eBin dAdd (eBin dSub (eBin dIxD (eBin dIxD (eVar 1) (eUn dNeg (eC (.int 1)))) (eC (.int 0))) (eBin dIxD (eBin dIxD (eVar 1) (eC (.int 0))) (eC (.int 0)))) (eC (.int 1))) (eC (.int 0))))
noncomputable def f_span_of : FnD := runF 2 m_span_of
noncomputable def m_rule_made : M Flo := sSeq (sIf (tst (eBin dGt (eFn f_span_of (aCons (eVar 0) (aNil))) (eC (.int 400)))) (sRaise "TooGreat" ["number"] (aCons (eC (.int 0)) (aNil))) (sNx)) (sRet (eVar 0))
noncomputable def f_rule_made : FnD := runF 1 m_rule_made
noncomputable def m_put_on : M Flo := sSeq (sSet 2 (eDict0)) (sSeq (sFor (iSeq (eBin dIxD (eVar 0) (eC (.int 1)))) (.tp [(.nm 3), (.nm 4)]) (sFor (iSeq (eBin dIxD (eVar 1) (eC (.int 1)))) (.tp [(.nm 5), (.nm 6)]) (sSetIx (eBin dAdd (eGet2 (eVar 2) (eBin dAdd (eVar 3) (eVar 5)) (eC (.int 0))) (eBin dMul (eVar 4) (eVar 6))) (eVar 2) (eBin dAdd (eVar 3) (eVar 5))))) (sRet (eFn f_rule_told (aCons (eBin dIxD (eVar 0) (eC (.int 0))) (aCons (eItems (eVar 2)) (aNil))))))
noncomputable def f_put_on : FnD := runF 7 m_put_on
noncomputable def m_rules_on : M Flo := sRet (eFn f_rule_made (aCons (eFn f_put_on (aCons (eVar 0) (aCons (eVar 1) (aNil)))) (aNil)))
noncomputable def f_rules_on : FnD := runF 2 m_rules_on
noncomputable def m_rules_and : M Flo := sRet (eFn f_rule_made (aCons (eFn f_rule_told (aCons (eBin dIxD (eVar 0) (eC (.int 0))) (aCons (eBin dAdd (eBin dIxD (eVar 0) (eC (.int 1))) (eBin dIxD (eVar 1) (eC (.int 1)))) (aNil)))) (aNil)))
noncomputable def f_rules_and : FnD := runF 2 m_rules_and
noncomputable def m_rule_moved : M Flo := sRet (eTup (aCons (eBin dIxD (eVar 0) (eC (.int 0))) (aCons (eCall dTuple (aCons (eComp [2, 3] (iSeq (eBin dIxD (eVar 0) (eC (.int 1)))) (.tp [(.nm 2), (.nm 3)]) (bYes) (eTup (aCons (eBin dAdd (eVar 2) (eVar 1)) (aCons (eVar 3) (aNil))))) (aNil))) (aNil))))
noncomputable def f_rule_moved : FnD := runF 4 m_rule_moved
noncomputable def m_rule_turned : M Flo := sRet (eFn f_rule_told (aCons (eBin dIxD (eVar 0) (eC (.int 0))) (aCons (eComp [1, 2] (iSeq (eBin dIxD (eVar 0) (eC (.int 1)))) (.tp [(.nm 1), (.nm 2)]) (bYes) (eTup (aCons (eUn dNeg (eVar 1)) (aCons (eVar 2) (aNil))))) (aNil))))
noncomputable def f_rule_turned : FnD := runF 3 m_rule_turned
noncomputable def m_rule_split : M Flo := sRet (eFn f_rule_told (aCons (eVar 1) (aCons (eBin dIxD (eVar 0) (eC (.int 1))) (aNil))))
noncomputable def f_rule_split : FnD := runF 2 m_rule_split
noncomputable def m_least_span : M Flo := sSeq (sSet 2 (eC (.int 0))) (sSeq (sFor (iSeq (eFn f_prime_powers (aCons (eBin dIxD (eVar 0) (eC (.int 0))) (aNil)))) (.tp [(.nm 3), (.nm 4)]) (sSeq (sSet 5 (eFn f_rule_split (aCons (eVar 0) (aCons (eVar 3) (aNil))))) (sSet 2 (eCall dMax (aCons (eVar 2) (aCons (eIf (tst (eBin dNe (eBin dIxD (eVar 5) (eC (.int 1))) (eTup (aNil)))) (eBin dAdd (eBin dMul (eVar 1) (eBin dSub (eFn f_span_of (aCons (eVar 5) (aNil))) (eC (.int 1)))) (eC (.int 1))) (eC (.int 0))) (aNil))))))) (sRet (eVar 2)))
noncomputable def f_least_span : FnD := runF 6 m_least_span
noncomputable def m_taken_inside : M Flo := sSeq (sPar [2, 3, 4] (aCons (eFn f_rule_one (aCons (eBin dIxD (eVar 0) (eC (.int 0))) (aNil))) (aCons (eVar 0) (aCons (eVar 1) (aNil))))) (sSeq (sWhile (tst (eBin dGt (eVar 4) (eC (.int 0)))) (sSeq (sIf (tst (eBin dEq (eBin dMod (eVar 4) (eC (.int 2))) (eC (.int 1)))) (sSet 2 (eFn f_put_on (aCons (eVar 3) (aCons (eVar 2) (aNil))))) (sNx)) (sSeq (sAug 4 dDiv (eC (.int 2))) (sSet 3 (eIf (tst (eBin dGt (eVar 4) (eC (.int 0)))) (eFn f_put_on (aCons (eVar 3) (aCons (eVar 3) (aNil)))) (eVar 3)))))) (sRet (eVar 2)))
noncomputable def f_taken_inside : FnD := runF 5 m_taken_inside
noncomputable def m_rule_taken : M Flo := sSeq (sIf (tst (eBin dGt (eFn f_least_span (aCons (eVar 0) (aCons (eVar 1) (aNil)))) (eC (.int 400)))) (sRaise "TooGreat" ["number"] (aCons (eC (.int 0)) (aNil))) (sNx)) (sRet (eFn f_rule_made (aCons (eFn f_taken_inside (aCons (eVar 0) (aCons (eVar 1) (aNil)))) (aNil))))
noncomputable def f_rule_taken : FnD := runF 2 m_rule_taken
noncomputable def m_row_led : M Flo := sRet (eFn f_rules_on (aCons (eVar 0) (aCons (eVar 1) (aNil))))
noncomputable def f_row_led : FnD := runF 2 m_row_led
noncomputable def m_rows_plus : M Flo := sRet (eFn f_rules_and (aCons (eVar 0) (aCons (eVar 1) (aNil))))
noncomputable def f_rows_plus : FnD := runF 2 m_rows_plus
noncomputable def m_cell_of : M Flo := sRet (eGet2 (eCall dDict (aCons (eBin dIxD (eVar 0) (eC (.int 1))) (aNil))) (eVar 1) (eC (.int 0)))
noncomputable def f_cell_of : FnD := runF 2 m_cell_of
noncomputable def m_cells_led : M Flo := sSeq (sPar [2, 3] (aCons (eCall dLen (aCons (eVar 1) (aNil))) (aCons (eBin dMul (eLst (aCons (eC (.int 0)) (aNil))) (eCall dLen (aCons (eVar 1) (aNil)))) (aNil)))) (sSeq (sFor (iSeq (eBin dIxD (eVar 0) (eC (.int 1)))) (.tp [(.nm 4), (.nm 5)]) (sFor (iEnum (aCons (eVar 1) (aNil))) (.tp [(.nm 6), (.nm 7)]) (sAugIx dAddI (eVar 3) (eBin dMod (eBin dAdd (eVar 6) (eVar 4)) (eVar 2)) (eBin dMul (eVar 5) (eVar 7))))) (sRet (eCall dTuple (aCons (eComp [5] (iSeq (eVar 3)) (.nm 5) (bYes) (eBin dMod (eVar 5) (eBin dIxD (eVar 0) (eC (.int 0))))) (aNil)))))
noncomputable def f_cells_led : FnD := runF 8 m_cells_led
noncomputable def m_first_lit : M Flo := sSeq (sFor (iEnum (aCons (eVar 0) (aNil))) (.tp [(.nm 1), (.nm 2)]) (sIf (tst (eBin dNe (eVar 2) (eC (.int 0)))) (sRet (eVar 1)) (sNx))) (sRet (eC .none))
noncomputable def f_first_lit : FnD := runF 3 m_first_lit
noncomputable def m_prime_parted : M Flo := sSeq (sSet 1 (eComp [2] (iSeq (eFn f_primes_of (aCons (eBin dIxD (eVar 0) (eC (.int 0))) (aNil)))) (.nm 2) (tst (eBin dNe (eCall dLen (aCons (eBin dIxD (eFn f_rule_split (aCons (eVar 0) (aCons (eVar 2) (aNil)))) (eC (.int 1))) (aNil))) (eC (.int 1)))) (eVar 2))) (sRet (eIf (tst (eBin dNe (eVar 1) (eLst (aNil)))) (eBin dIxD (eVar 1) (eC (.int 0))) (eC .none)))
noncomputable def f_prime_parted : FnD := runF 3 m_prime_parted
noncomputable def m_is_one : M Flo := sRet (eBin dIs (eFn f_prime_parted (aCons (eVar 0) (aNil))) (eC .none))
noncomputable def f_is_one : FnD := runF 1 m_is_one
noncomputable def m_numbers_between : M Flo := sSeq (sSet 1 (eCall dDict (aCons (eBin dIxD (eVar 0) (eC (.int 1))) (aNil)))) (sSeq (sPar [2, 3] (aCons (eBin dIxD (eBin dIxD (eBin dIxD (eVar 0) (eC (.int 1))) (eC (.int 0))) (eC (.int 0))) (aCons (eBin dIxD (eBin dIxD (eBin dIxD (eVar 0) (eC (.int 1))) (eUn dNeg (eC (.int 1)))) (eC (.int 0))) (aNil)))) (sRet (eComp [4] (iRange2 (aCons (eVar 2) (aCons (eBin dAdd (eVar 3) (eC (.int 1))) (aNil)))) (.nm 4) (bYes) (eGet2 (eVar 1) (eVar 4) (eC (.int 0))))))
noncomputable def f_numbers_between : FnD := runF 5 m_numbers_between
noncomputable def m_cells_round : M Flo := sSeq (sPar [1, 2] (aCons (eBin dIxD (eVar 0) (eC (.int 0))) (aCons (eFn f_numbers_between (aCons (eVar 0) (aNil))) (aNil)))) (sSeq (sPar [3, 4] (aCons (eBin dSub (eCall dLen (aCons (eVar 2) (aNil))) (eC (.int 1))) (aCons (eFn f_rest_undone (aCons (eBin dIxD (eVar 2) (eC (.int 0))) (aCons (eBin dIxD (eVar 0) (eC (.int 0))) (aNil)))) (aNil)))) (sSeq (sSet 5 (eBin dAdd (eBin dMul (eLst (aCons (eC (.int 0)) (aNil))) (eBin dSub (eVar 3) (eC (.int 1)))) (eLst (aCons (eC (.int 1)) (aNil))))) (sSeq (sSet 6 (eCall dList (aCons (eVar 5) (aNil)))) (sSeq (sFor (iRange2 (aCons (eC (.int 1)) (aCons (eBin dAdd (eC (.int 256)) (eC (.int 1))) (aNil)))) (.nm 7) (sSeq (sSet 8 (eCall dSum (aCons (eComp [9, 10] (iEnum (aCons (eSl (eVar 2) (some (eC (.int 1))) none) (aNil))) (.tp [(.nm 9), (.nm 10)]) (bYes) (eBin dMul (eVar 10) (eBin dIxD (eVar 6) (eBin dSub (eUn dNeg (eVar 9)) (eC (.int 1)))))) (aNil)))) (sSeq (sDrop (eMut fApp (eVar 6) (aCons (eBin dMod (eBin dMul (eUn dNeg (eVar 8)) (eVar 4)) (eVar 1)) (aNil)))) (sIf (tst (eBin dEq (eSl (eVar 6) (some (eVar 7)) none) (eVar 5))) (sRet (eCall dTuple (aCons (eSl (eVar 6) none (some (eVar 7))) (aNil)))) (sNx))))) (sRaise "TooGreat" ["number"] (aCons (eC (.int 2)) (aNil)))))))
noncomputable def f_cells_round : FnD := runF 11 m_cells_round
noncomputable def m_undone_by : M Flo := sSeq (sSet 2 (eBin dIxD (eVar 0) (eC (.int 0)))) (sSeq (sUnp (.tp [(.nm 3), (.nm 4)]) (eBin dIxD (eComp [3, 4] (iSeq (eBin dIxD (eVar 0) (eC (.int 1)))) (.tp [(.nm 3), (.nm 4)]) (tst (eBin dNe (eBin dMod (eVar 4) (eVar 1)) (eC (.int 0)))) (eTup (aCons (eVar 3) (aCons (eVar 4) (aNil))))) (eC (.int 0)))) (sSeq (sSet 5 (eFn f_rest_undone (aCons (eVar 4) (aCons (eVar 2) (aNil))))) (sSeq (sSet 6 (eFn f_rule_told (aCons (eVar 2) (aCons (eComp [9, 10] (iSeq (eBin dIxD (eVar 0) (eC (.int 1)))) (.tp [(.nm 9), (.nm 10)]) (tst (eBin dNe (eVar 9) (eVar 3))) (eTup (aCons (eBin dSub (eVar 9) (eVar 3)) (aCons (eBin dMul (eUn dNeg (eVar 10)) (eVar 5)) (aNil))))) (aNil))))) (sSeq (sPar [7, 8] (aCons (eFn f_rule_one (aCons (eVar 2) (aNil))) (aCons (eVar 6) (aNil)))) (sSeq (sWhile (tst (eBin dNe (eBin dIxD (eVar 8) (eC (.int 1))) (eTup (aNil)))) (sPar [7, 8] (aCons (eFn f_rule_told (aCons (eVar 2) (aCons (eBin dAdd (eBin dIxD (eVar 7) (eC (.int 1))) (eBin dIxD (eVar 8) (eC (.int 1)))) (aNil)))) (aCons (eFn f_put_on (aCons (eVar 8) (aCons (eVar 6) (aNil)))) (aNil))))) (sRet (eFn f_rule_moved (aCons (eFn f_rule_told (aCons (eVar 2) (aCons (eComp [9, 10] (iSeq (eBin dIxD (eVar 7) (eC (.int 1)))) (.tp [(.nm 9), (.nm 10)]) (bYes) (eTup (aCons (eVar 9) (aCons (eBin dMul (eVar 10) (eVar 5)) (aNil))))) (aNil)))) (aCons (eUn dNeg (eVar 3)) (aNil))))))))))
noncomputable def f_undone_by : FnD := runF 11 m_undone_by
noncomputable def m_put_section : M Flo := sSeq (sSet 4 (eDict0)) (sSeq (sFor (iSeq (eBin dIxD (eVar 0) (eC (.int 1)))) (.tp [(.nm 5), (.nm 6)]) (sFor (iSeq (eBin dIxD (eVar 1) (eC (.int 1)))) (.tp [(.nm 7), (.nm 8)]) (sIf (tst (eBin dEq (eBin dMod (eBin dAdd (eVar 5) (eVar 7)) (eVar 2)) (eVar 3))) (sSeq (sSet 9 (eBin dDiv (eBin dAdd (eVar 5) (eVar 7)) (eVar 2))) (sSetIx (eBin dMod (eBin dAdd (eGet2 (eVar 4) (eVar 9) (eC (.int 0))) (eBin dMul (eVar 6) (eVar 8))) (eBin dIxD (eVar 0) (eC (.int 0)))) (eVar 4) (eVar 9))) (sNx)))) (sRet (eTup (aCons (eBin dIxD (eVar 0) (eC (.int 0))) (aCons (eCall dTuple (aCons (eComp [5] (iSeq (eCall dSorted2 (aCons (eVar 4) (aNil)))) (.nm 5) (tst (eBin dNe (eBin dIxD (eVar 4) (eVar 5)) (eC (.int 0)))) (eTup (aCons (eVar 5) (aCons (eBin dIxD (eVar 4) (eVar 5)) (aNil))))) (aNil))) (aNil))))))
noncomputable def f_put_section : FnD := runF 10 m_put_section
noncomputable def m_number_at : M Flo := sRet (eGet2 (eCall dDict (aCons (eCall dList (aCons (eBin dIxD (eVar 0) (eC (.int 1))) (aNil))) (aNil))) (eVar 1) (eC (.int 0)))
noncomputable def f_number_at : FnD := runF 2 m_number_at
noncomputable def m_wide_told : M Flo := sSeq (sSet 3 (eFn f_taken_inside (aCons (eVar 0) (aCons (eFn f_number_taken (aCons (eVar 1) (aCons (eBin dSub (eVar 2) (eC (.int 1))) (aNil)))) (aNil))))) (sSeq (sIf (tst (eBin dGt (eFn f_span_of (aCons (eVar 3) (aNil))) (eC (.int 64)))) (sRaise "TooGreat" ["number"] (aCons (eC (.int 0)) (aNil))) (sNx)) (sRet (eVar 3)))
noncomputable def f_wide_told : FnD := runF 4 m_wide_told
noncomputable def m_part_cell : M Flo := sSeq (sUnp (.tp [(.nm 5), (.nm 6)]) (eVar 2)) (sSeq (sSet 7 (eFn f_number_taken (aCons (eVar 5) (aCons (eBin dSub (eVar 6) (eC (.int 1))) (aNil))))) (sSeq (sSet 8 (eFn f_wide_told (aCons (eVar 0) (aCons (eVar 5) (aCons (eVar 6) (aNil)))))) (sSeq (sSet 9 (eComp [12] (iRange1 (aCons (eVar 5) (aNil))) (.nm 12) (bYes) (eFn f_taken_inside (aCons (eVar 8) (aCons (eVar 12) (aNil)))))) (sSeq (sPar [10, 11] (aCons (eFn f_put_on (aCons (eVar 1) (aCons (eFn f_taken_inside (aCons (eVar 0) (aCons (eBin dMod (eVar 3) (eVar 7)) (aNil)))) (aNil)))) (aCons (eVar 4) (aNil)))) (sSeq (sFor (iSeq (eFn f_figures_told (aCons (eBin dDiv (eVar 3) (eVar 7)) (aCons (eVar 5) (aNil))))) (.nm 12) (sSeq (sSet 10 (eFn f_put_section (aCons (eVar 10) (aCons (eBin dIxD (eVar 9) (eVar 12)) (aCons (eVar 5) (aCons (eBin dMod (eVar 11) (eVar 5)) (aNil))))))) (sSet 11 (eBin dDiv (eVar 11) (eVar 5))))) (sRet (eFn f_number_at (aCons (eVar 10) (aCons (eVar 11) (aNil))))))))))
noncomputable def f_part_cell : FnD := runF 13 m_part_cell
noncomputable def m_fall_cell : M Flo := sSeq (sSet 4 (eLst (aNil))) (sSeq (sFor (iSeq (eFn f_prime_powers (aCons (eBin dIxD (eVar 1) (eC (.int 0))) (aNil)))) (.tp [(.nm 5), (.nm 6)]) (sSeq (sSet 7 (eFn f_number_taken (aCons (eVar 5) (aCons (eVar 6) (aNil))))) (sDrop (eMut fApp (eVar 4) (aCons (eTup (aCons (eVar 7) (aCons (eFn f_part_cell (aCons (eFn f_rule_split (aCons (eVar 1) (aCons (eVar 7) (aNil)))) (aCons (eFn f_rule_split (aCons (eVar 0) (aCons (eVar 7) (aNil)))) (aCons (eTup (aCons (eVar 5) (aCons (eVar 6) (aNil)))) (aCons (eVar 2) (aCons (eVar 3) (aNil))))))) (aNil)))) (aNil)))))) (sRet (eFn f_rests_together (aCons (eVar 4) (aNil)))))
noncomputable def f_fall_cell : FnD := runF 8 m_fall_cell
noncomputable def m_far_cell : M Flo := sRet (eFn f_fall_cell (aCons (eFn f_rule_one (aCons (eBin dIxD (eVar 0) (eC (.int 0))) (aNil))) (aCons (eVar 0) (aCons (eVar 1) (aCons (eVar 2) (aNil))))))
noncomputable def f_far_cell : FnD := runF 3 m_far_cell
noncomputable def m_is_barring : M Flo := sRet (eAnd (eBin dIn (eVar 1) (eFn f_primes_of (aCons (eBin dIxD (eVar 0) (eC (.int 0))) (aNil)))) (eBin dEq (eBin dIxD (eFn f_rule_split (aCons (eVar 0) (aCons (eVar 1) (aNil)))) (eC (.int 1))) (eTup (aNil))))
noncomputable def f_is_barring : FnD := runF 2 m_is_barring
noncomputable def m_lost_on : M Flo := sRet (eBin dSub (eCall dLen (aCons (eFn f_poly_common (aCons (eVar 0) (aCons (eFn f_poly_least (aCons (eVar 0) (aCons (eVar 1) (aNil)))) (aCons (eFn f_poly_gap (aCons (eVar 0) (aCons (eCall dLen (aCons (eVar 1) (aNil))) (aNil)))) (aNil))))) (aNil))) (eC (.int 1)))
noncomputable def f_lost_on : FnD := runF 2 m_lost_on
noncomputable def m_cells_begun : M Flo := sRet (eBin dAdd (eTup (aCons (eC (.int 1)) (aNil))) (eBin dMul (eTup (aCons (eC (.int 0)) (aNil))) (eBin dSub (eVar 0) (eC (.int 1)))))
noncomputable def f_cells_begun : FnD := runF 1 m_cells_begun
noncomputable def m_folded : M Flo := sRet (eFn f_rule_told (aCons (eBin dIxD (eVar 0) (eC (.int 0))) (aCons (eComp [2, 3] (iSeq (eBin dIxD (eVar 0) (eC (.int 1)))) (.tp [(.nm 2), (.nm 3)]) (bYes) (eTup (aCons (eBin dMod (eVar 2) (eVar 1)) (aCons (eVar 3) (aNil))))) (aNil))))
noncomputable def f_folded : FnD := runF 4 m_folded
noncomputable def m_is_ring_one : M Flo := sRet (eBin dEq (eFn f_lost_on (aCons (eBin dIxD (eVar 0) (eC (.int 0))) (aCons (eFn f_cells_led (aCons (eFn f_folded (aCons (eVar 0) (aCons (eVar 1) (aNil)))) (aCons (eFn f_cells_begun (aCons (eVar 1) (aNil))) (aNil)))) (aNil)))) (eC (.int 0)))
noncomputable def f_is_ring_one : FnD := runF 2 m_is_ring_one
noncomputable def m_ring_told : M Flo := sSeq (sPar [2, 3] (aCons (eFn f_cells_begun (aCons (eVar 1) (aNil))) (aCons (eFn f_folded (aCons (eVar 0) (aCons (eVar 1) (aNil)))) (aNil)))) (sSeq (sPar [4, 5] (aCons (eFn f_cells_led (aCons (eVar 3) (aCons (eVar 2) (aNil)))) (aCons (eC (.int 0)) (aNil)))) (sSeq (sSet 6 (eFn f_lost_on (aCons (eBin dIxD (eVar 0) (eC (.int 0))) (aCons (eVar 4) (aNil))))) (sSeq (sWhile (tst (eBin dNe (eFn f_lost_on (aCons (eBin dIxD (eVar 0) (eC (.int 0))) (aCons (eVar 4) (aNil)))) (eFn f_lost_on (aCons (eBin dIxD (eVar 0) (eC (.int 0))) (aCons (eVar 2) (aNil)))))) (sPar [2, 4, 5] (aCons (eVar 4) (aCons (eFn f_cells_led (aCons (eVar 3) (aCons (eVar 4) (aNil)))) (aCons (eBin dAdd (eVar 5) (eC (.int 1))) (aNil)))))) (sSeq (sFor (iRange2 (aCons (eC (.int 1)) (aCons (eBin dAdd (eC (.int 1000)) (eC (.int 1))) (aNil)))) (.nm 7) (sSeq (sIf (tst (eBin dEq (eVar 4) (eVar 2))) (sRet (eTup (aCons (eVar 6) (aCons (eVar 5) (aCons (eVar 7) (aNil)))))) (sNx)) (sSet 4 (eFn f_cells_led (aCons (eVar 3) (aCons (eVar 4) (aNil))))))) (sRaise "TooGreat" ["number"] (aCons (eC (.int 2)) (aNil)))))))
noncomputable def f_ring_told : FnD := runF 8 m_ring_told
noncomputable def m_let_onto : M Flo := sSeq (sIf (tst (eBin dEq (eBin dIxD (eVar 0) (eC (.int 1))) (eTup (aNil)))) ((fun _ => .bad)) (sNx)) (sRet (eVar 0))
noncomputable def f_let_onto : FnD := runF 1 m_let_onto
noncomputable def m_backward_poly : M Flo := sSeq (sSet 1 (eBin dIxD (eBin dIxD (eBin dIxD (eVar 0) (eC (.int 1))) (eUn dNeg (eC (.int 1)))) (eC (.int 0)))) (sSeq (sSet 2 (eBin dMul (eLst (aCons (eC (.int 0)) (aNil))) (eFn f_span_of (aCons (eVar 0) (aNil))))) (sSeq (sFor (iSeq (eBin dIxD (eVar 0) (eC (.int 1)))) (.tp [(.nm 3), (.nm 4)]) (sSetIx (eVar 4) (eVar 2) (eBin dSub (eVar 1) (eVar 3)))) (sRet (eFn f_poly_least (aCons (eBin dIxD (eVar 0) (eC (.int 0))) (aCons (eVar 2) (aNil)))))))
noncomputable def f_backward_poly : FnD := runF 5 m_backward_poly
noncomputable def m_undone_step : M Flo := sSeq (sSet 2 (eUn dNeg (eFn f_rest_undone (aCons (eBin dIxD (eVar 0) (eC (.int 0))) (aCons (eVar 1) (aNil)))))) (sRet (eFn f_poly_least (aCons (eVar 1) (aCons (eComp [3] (iSeq (eSl (eVar 0) (some (eC (.int 1))) none)) (.nm 3) (bYes) (eBin dMul (eVar 3) (eVar 2))) (aNil)))))
noncomputable def f_undone_step : FnD := runF 4 m_undone_step
noncomputable def m_places_left : M Flo := sRet (eCall dTuple (aCons (eComp [2, 3] (iSeq (eBin dIxD (eFn f_rule_split (aCons (eVar 0) (aCons (eVar 1) (aNil)))) (eC (.int 1)))) (.tp [(.nm 2), (.nm 3)]) (bYes) (eVar 2)) (aNil)))
noncomputable def f_places_left : FnD := runF 4 m_places_left
noncomputable def m_nought_from : M Flo := sSeq (sPar [1, 2] (aCons (eC (.int 1)) (aCons (eVar 0) (aNil)))) (sSeq (sWhile (tst (eBin dNe (eBin dIxD (eVar 2) (eC (.int 1))) (eTup (aNil)))) (sPar [1, 2] (aCons (eBin dAdd (eVar 1) (eC (.int 1))) (aCons (eFn f_put_on (aCons (eVar 2) (aCons (eVar 0) (aNil)))) (aNil))))) (sRet (eVar 1)))
noncomputable def f_nought_from : FnD := runF 3 m_nought_from
noncomputable def m_one_again : M Flo := sSeq (sPar [1, 2, 3] (aCons (eC (.int 1)) (aCons (eVar 0) (aCons (eFn f_rule_one (aCons (eBin dIxD (eVar 0) (eC (.int 0))) (aNil))) (aNil))))) (sSeq (sWhile (tst (eBin dNe (eVar 2) (eVar 3))) (sPar [1, 2] (aCons (eBin dAdd (eVar 1) (eC (.int 1))) (aCons (eFn f_put_on (aCons (eVar 2) (aCons (eVar 0) (aNil)))) (aNil))))) (sRet (eVar 1)))
noncomputable def f_one_again : FnD := runF 4 m_one_again
noncomputable def m_numbers_of : M Flo := sSeq (sSet 1 (eBin dIxD (eVar 0) (eC (.int 1)))) (sSeq (sSet 2 (eBin dMul (eLst (aCons (eC (.int 0)) (aNil))) (eIf (tst (eBin dNe (eVar 1) (eTup (aNil)))) (eBin dAdd (eBin dSub (eBin dIxD (eBin dIxD (eVar 1) (eUn dNeg (eC (.int 1)))) (eC (.int 0))) (eBin dIxD (eBin dIxD (eVar 1) (eC (.int 0))) (eC (.int 0)))) (eC (.int 1))) (eC (.int 0))))) (sSeq (sFor (iSeq (eVar 1)) (.tp [(.nm 3), (.nm 4)]) (sSetIx (eVar 4) (eVar 2) (eBin dSub (eVar 3) (eBin dIxD (eBin dIxD (eVar 1) (eC (.int 0))) (eC (.int 0)))))) (sRet (eVar 2))))
noncomputable def f_numbers_of : FnD := runF 5 m_numbers_of
noncomputable def m_numbers_product : M Flo := sSeq (sPar [3, 4] (aCons (eBin dMul (eLst (aCons (eC (.int 0)) (aNil))) (eBin dSub (eBin dAdd (eCall dLen (aCons (eVar 1) (aNil))) (eCall dLen (aCons (eVar 2) (aNil)))) (eC (.int 1)))) (aCons (eComp [7, 8] (iEnum (aCons (eVar 2) (aNil))) (.tp [(.nm 7), (.nm 8)]) (tst (eBin dNe (eVar 8) (eC (.int 0)))) (eTup (aCons (eVar 7) (aCons (eVar 8) (aNil))))) (aNil)))) (sSeq (sFor (iEnum (aCons (eVar 1) (aNil))) (.tp [(.nm 5), (.nm 6)]) (sFor (iSeq (eIf (tst (eBin dNe (eVar 6) (eC (.int 0)))) (eVar 4) (eLst (aNil)))) (.tp [(.nm 7), (.nm 8)]) (sSetIx (eBin dMod (eBin dAdd (eBin dIxD (eVar 3) (eBin dAdd (eVar 5) (eVar 7))) (eBin dMul (eVar 6) (eVar 8))) (eVar 0)) (eVar 3) (eBin dAdd (eVar 5) (eVar 7))))) (sRet (eVar 3)))
noncomputable def f_numbers_product : FnD := runF 9 m_numbers_product
noncomputable def m_section_of : M Flo := sSeq (sSet 2 (eComp [4, 5] (iEnum (aCons (eVar 1) (aNil))) (.tp [(.nm 4), (.nm 5)]) (tst (eBin dNe (eVar 5) (eC (.int 0)))) (eVar 4))) (sSeq (sIf (tst (eBin dEq (eVar 2) (eLst (aNil)))) (sRet (eTup (aNil))) (sNx)) (sSeq (sSet 3 (eFn f_rest_undone (aCons (eBin dIxD (eVar 1) (eBin dIxD (eVar 2) (eC (.int 0)))) (aCons (eVar 0) (aNil))))) (sRet (eCall dTuple (aCons (eComp [5] (iSeq (eSl (eVar 1) (some (eBin dIxD (eVar 2) (eC (.int 0)))) (some (eBin dAdd (eBin dIxD (eVar 2) (eUn dNeg (eC (.int 1)))) (eC (.int 1)))))) (.nm 5) (bYes) (eBin dMod (eBin dMul (eVar 5) (eVar 3)) (eVar 0))) (aNil))))))
noncomputable def f_section_of : FnD := runF 6 m_section_of
noncomputable def m_figures_taken : M Flo := sSeq (sPar [1, 2] (aCons (eBin dIxD (eVar 0) (eC (.int 0))) (aCons (eLst (aCons (eLst (aCons (eC (.int 1)) (aNil))) (aNil))) (aNil)))) (sSeq (sFor (iRange1 (aCons (eBin dSub (eVar 1) (eC (.int 1))) (aNil))) (.nm 3) (sDrop (eMut fApp (eVar 2) (aCons (eFn f_numbers_product (aCons (eVar 1) (aCons (eBin dIxD (eVar 2) (eUn dNeg (eC (.int 1)))) (aCons (eFn f_numbers_of (aCons (eVar 0) (aNil))) (aNil))))) (aNil))))) (sRet (eVar 2)))
noncomputable def f_figures_taken : FnD := runF 4 m_figures_taken
noncomputable def m__wall : M Flo := sWhile (tst (eC (.bool true))) (sNx)
noncomputable def f__wall : FnD := runF 1 m__wall
noncomputable def m_row_behind : M Flo := sRet (eCall dTuple (aCons (eComp [3] (iSeq (eVar 0)) (.nm 3) (bYes) (eCall dSum (aCons (eComp [4] (iSeq (eBin dIxD (eVar 3) (eVar 2))) (.nm 4) (bYes) (eBin dIxD (eVar 1) (eVar 4))) (aNil)))) (aNil)))
noncomputable def f_row_behind : FnD := runF 5 m_row_behind
noncomputable def m_next_cell : M Flo := sSeq (sUnp (.tp [(.nm 3), (.nm 4)]) (eBin dIxD (eBin dIxD (eVar 0) (eC (.int 1))) (eC (.int 0)))) (sSeq (sSet 5 (eVar 2)) (sSeq (sFor (iSeq (eSl (eBin dIxD (eVar 0) (eC (.int 1))) (some (eC (.int 1))) none)) (.tp [(.nm 6), (.nm 7)]) (sIf (tst (eBin dLe (eBin dSub (eVar 6) (eVar 3)) (eCall dLen (aCons (eVar 1) (aNil))))) (sAug 5 dSub (eBin dMul (eVar 7) (eBin dIxD (eVar 1) (eBin dSub (eVar 3) (eVar 6))))) (sNx))) (sRet (eBin dMod (eBin dMul (eVar 5) (eFn f_rest_undone (aCons (eVar 4) (aCons (eBin dIxD (eVar 0) (eC (.int 0))) (aNil))))) (eBin dIxD (eVar 0) (eC (.int 0)))))))
noncomputable def f_next_cell : FnD := runF 8 m_next_cell
noncomputable def m_cells_ahead : M Flo := sSeq (sPar [2, 3, 4] (aCons (eCall dDict (aCons (eBin dIxD (eVar 1) (eC (.int 1))) (aNil))) (aCons (eBin dIxD (eBin dIxD (eBin dIxD (eVar 1) (eC (.int 1))) (eC (.int 0))) (eC (.int 0))) (aCons (eLst (aNil)) (aNil))))) (sSeq (sFor (iRange2 (aCons (eVar 3) (aCons (eBin dAdd (eBin dIxD (eBin dIxD (eBin dIxD (eVar 1) (eC (.int 1))) (eUn dNeg (eC (.int 1)))) (eC (.int 0))) (eC (.int 1))) (aNil)))) (.nm 5) (sDrop (eMut fApp (eVar 4) (aCons (eFn f_next_cell (aCons (eVar 0) (aCons (eVar 4) (aCons (eGet2 (eVar 2) (eVar 5) (eC (.int 0))) (aNil))))) (aNil))))) (sRet (eVar 4)))
noncomputable def f_cells_ahead : FnD := runF 6 m_cells_ahead
noncomputable def m_round_behind : M Flo := sSeq (sSet 2 (eBin dSub (eFn f_span_of (aCons (eVar 0) (aNil))) (eC (.int 1)))) (sSeq (sIf (tst (eBin dEq (eVar 2) (eC (.int 0)))) (sRet (eLst (aCons (eC (.int 0)) (aNil)))) (sNx)) (sSeq (sSet 3 (eBin dAdd (eBin dMul (eLst (aCons (eC (.int 0)) (aNil))) (eCall dMax (aCons (eC (.int 0)) (aCons (eBin dSub (eVar 2) (eCall dLen (aCons (eVar 1) (aNil)))) (aNil))))) (eVar 1))) (sSeq (sPar [4, 5] (aCons (eSl (eVar 3) (some (eUn dNeg (eVar 2))) none) (aCons (eLst (aNil)) (aNil)))) (sSeq (sWhile (bOr (tst (eBin dEq (eVar 5) (eLst (aNil)))) (tst (eBin dNe (eSl (eVar 3) (some (eUn dNeg (eVar 2))) none) (eVar 4)))) (sSeq (sIf (tst (eBin dEq (eCall dLen (aCons (eVar 5) (aNil))) (eC (.int 256)))) (sRaise "TooGreat" ["number"] (aCons (eC (.int 2)) (aNil))) (sNx)) (sSeq (sDrop (eMut fApp (eVar 5) (aCons (eFn f_next_cell (aCons (eVar 0) (aCons (eVar 3) (aCons (eC (.int 0)) (aNil))))) (aNil)))) (sDrop (eMut fApp (eVar 3) (aCons (eBin dIxD (eVar 5) (eUn dNeg (eC (.int 1)))) (aNil))))))) (sRet (eVar 5))))))
noncomputable def f_round_behind : FnD := runF 6 m_round_behind
noncomputable def m_heard_told : M Flo := sSeq (sIf (tst (eBin dEq (eVar 3) (eTup (aNil)))) ((fun _ => .bad)) (sNx)) (sRet (eFn f_fall_cell (aCons (eVar 0) (aCons (eVar 1) (aCons (eCall dSum (aCons (eVar 3) (aNil))) (aCons (eVar 2) (aNil)))))))
noncomputable def f_heard_told : FnD := runF 4 m_heard_told
noncomputable def m_are_one : M Flo := sRet (eBin dEq (eVar 0) (eVar 1))
noncomputable def f_are_one : FnD := runF 2 m_are_one
noncomputable def m_ahead_cell : M Flo := sSeq (sUnp (.tp [(.nm 2), (.nm 3), (.nm 4)]) (eVar 0)) (sSeq (sSet 5 (eBin dSub (eVar 1) (eVar 2))) (sSeq (sIf (tst (eBin dLt (eVar 5) (eC (.int 0)))) (sRet (eC (.int 0))) (sNx)) (sRet (eIf (tst (eBin dLt (eVar 5) (eCall dLen (aCons (eVar 3) (aNil))))) (eBin dIxD (eVar 3) (eVar 5)) (eBin dIxD (eVar 4) (eBin dMod (eBin dSub (eVar 5) (eCall dLen (aCons (eVar 3) (aNil)))) (eCall dLen (aCons (eVar 4) (aNil)))))))))
noncomputable def f_ahead_cell : FnD := runF 6 m_ahead_cell
end Rf

namespace Rf
open PySem PySem.Spec PyProof.Rows L2
section
variable {xs ys : List Dt} {ns : List Int} {i : Int}
@[simp] theorem dMul_t : dMul (.tuple xs) (.int i) = (if xs ≠ [] ∧ 2 ≤ i ∧ i ≤ 1000 ∧ xs.length ≤ 1000 then some (.st (.tuple (List.replicate i.toNat xs).flatten)) else none) := (rfl)
theorem dSum_i {α : Type} {f : α → Int} {l : List α} : dSum [.list (l.map fun x => PyData.int (f x))] = some (.st (.int (l.map f).sum)) := by
  have e : (l.map fun x => PyData.int (f x)) = (l.map f).map PyData.int := by rw [List.map_map]; rfl
  rw [e]
  unfold dSum
  simp only [ints_map, Option.map_some]
theorem dMinL_i {n : Int} : dMinL [.list ((n :: ns).map PyData.int)] = some (.st (.int (minI (n :: ns)))) := by
  unfold dMinL
  simp only [ints_map, Option.bind_some]
  simp
theorem dMaxL_i {n : Int} : dMaxL [.list ((n :: ns).map PyData.int)] = some (.st (.int (maxI (n :: ns)))) := by
  unfold dMaxL
  simp only [ints_map, Option.bind_some]
  simp
@[simp] theorem pairI_i {i : Int} : pairI (.int i) = false := (rfl)
@[simp] theorem pairI_s {x : Str} : pairI (.str x) = false := (rfl)
@[simp] theorem pairI_b {x : Bool} : pairI (.bool x) = false := (rfl)
@[simp] theorem npD_t : npD (.tuple xs) = !xs.all pairI := (rfl)
end
end Rf

namespace Rf
open PySem PySem.Spec PyProof.Rows L2

def ruD (m : Int) (F : List Pr) : Dt := .tuple [.int m, .tuple (F.map pT)]
theorem noRef_ruD (m : Int) (F : List Pr) : noRef (ruD m F) = true := by
  simp [ruD, noRefs_map noRef_pT]
theorem told_ok {m : Int} (hm : 0 < m) {T : List Pr} (hT : T.length < sizeLine) {d : Dt} (hd : d = .list (T.map pT) ∨ d = .tuple (T.map pT)) (am : Option Src) :
    f_rule_told [.int m, d] am = .ret (.st (ruD m (told m T))) am := by
  unfold f_rule_told m_rule_told
  rw [runF_out]
  rcases hd with rfl | rfl <;> (
    simp
    refine for_go (f := pT) (P := fun r => out r = _) (fun pre s => ∃ a b, s = ⟨[.fz (.int m), .fz _, .ow (.dict ((dictA (· % m) pre).map kT)), a, b], am⟩) ⟨_, _, rfl⟩ ?_ ?_
    · rintro p x q s hT' ⟨a, b, rfl⟩
      have hl := length_dictA (· % m) p
      have : p.length < sizeLine := by rw [hT'] at hT; simp at hT; omega
      refine ⟨_, by simp [pT]; rfl, _, .inl ?_, .fz (.int x.1), .fz (.int x.2), rfl⟩
      rw [dictA_snoc]
      unfold accD
      cases hg : getI (dictA (· % m) p) x.1 with
      | none => simp [hg, hm, show (dictA (· % m) p).length < sizeLine by omega]
      | some v => simp [hg, hm, show (dictA (· % m) p).length < sizeLine by omega]
    · rintro s' ⟨a, b, rfl⟩
      have hl := length_dictA (· % m) T
      simp
      rw [compL_map (f := PyData.int) (g := fun k => pT (k, cf T k % m)) (p := fun k => !decide (cf T k % m = 0)) _ [] (fun k hk => ?_) (by simp [length_srtI]; omega)]
      · simp [told, ruD]
      · obtain ⟨v, hv⟩ := getI_some (mem_srtI.mp hk)
        have ev : cf T k % m = v := by rw [← val_mod, hv]; rfl
        refine ⟨_, by simp; rfl, by simp [hv, ev], fun h => ⟨.st (pT (k, cf T k % m)), by simp [hv, ev, pT], rfl⟩, by simp⟩)
theorem one_ok {m : Int} (am : Option Src) : f_rule_one [.int m] am = .ret (.st (ruD m [(0, 1)])) am := by
  unfold f_rule_one m_rule_one
  rw [runF_out]
  simp [ruD, pT]
theorem atI_one {a b : Dt} : atI [a, b] 1 = some b := atI_1
theorem atI_zero {a b : Dt} : atI [a, b] 0 = some a := atI_0
theorem shaped_pairs (F : List Pr) : SeqAt.shaped (.tuple (F.map pT)) = true := by
  have h1 : PyData.canLayAll0 (F.map pT) = true := by
    induction F with
    | nil => rfl
    | cons x F ih => simp [PyData.canLayAll0, PyData.canLay0, pT, ih]
  have h2 : PyData.depth (.tuple (F.map pT)) ≤ 64 := by
    have : PyData.depthAll (F.map pT) ≤ 2 := by
      induction F with
      | nil => simp [PyData.depthAll]
      | cons x F ih =>
        have := ih (by simpa [PyData.canLayAll0, PyData.canLay0, pT] using h1)
        simp [PyData.depthAll, PyData.depth, pT]
        omega
    simp [PyData.depth]
    omega
  simp [SeqAt.shaped, PyData.canLay0, h1, h2]
theorem dNe_nil (F : List Pr) : dNe (.tuple (F.map pT)) (.tuple []) = some (.st (.bool (!F.isEmpty))) := by
  simp only [dNe]
  rw [if_pos ⟨shaped_pairs F, shaped_pairs []⟩]
  cases F with
  | nil => rfl
  | cons x F => simp [PyData.eqv, PyData.eqvAll]
theorem dEq_nil (F : List Pr) : dEq (.tuple (F.map pT)) (.tuple []) = some (.st (.bool F.isEmpty)) := by
  simp only [dEq]
  rw [if_pos ⟨shaped_pairs F, shaped_pairs []⟩]
  cases F with
  | nil => rfl
  | cons x F => simp [PyData.eqv, PyData.eqvAll]
theorem span_ok {m : Int} (F : List Pr) (am : Option Src) : f_span_of [ruD m F] am = .ret (.st (.int (spanL F))) am := by
  unfold f_span_of m_span_of
  rw [runF_out]
  cases F with
  | nil =>
    simp [ruD, atI_one, spanL]
    have := dNe_nil []
    simp at this
    simp [this]
  | cons x F =>
    have h := dNe_nil (x :: F)
    have e : (x :: F).map pT = ((x :: F).dropLast.map pT) ++ [pT ((x :: F).getLast (by simp))] := by
      rw [← List.map_singleton, ← List.map_append, List.dropLast_concat_getLast]
    have e1 : atI ((x :: F).map pT) (-1) = some (pT ((x :: F).getLast (by simp))) := by rw [e]; exact atI_last
    have e0 : atI ((x :: F).map pT) 0 = some (pT x) := atI_0
    simp only [List.isEmpty_cons, Bool.not_false] at h
    simp [ruD, atI_one, h, -List.map_cons, e1, e0]
    simp [pT, atI_0, spanL]
theorem made_ok {m : Int} {F : List Pr} (h : spanL F ≤ 400) (am : Option Src) : f_rule_made [ruD m F] am = .ret (.st (ruD m F)) am := by
  unfold f_rule_made m_rule_made
  rw [runF_out]
  have : ¬ 400 < spanL F := by omega
  simp [span_ok, this]
end Rf

namespace Rf
open PySem PySem.Spec PyProof.Rows L2

def Small (F : List Pr) : Prop := ∀ x ∈ F, -(2 ^ 64) < x.2 ∧ x.2 < 2 ^ 64
theorem mulOk_left {i j : Int} (h : -(2 ^ 64) < i ∧ i < 2 ^ 64) : MulOk i j := .inl (.inl h)
theorem mulOk_right {i j : Int} (h : -(2 ^ 64) < j ∧ j < 2 ^ 64) : MulOk i j := .inl (.inr h)
theorem Form.small {m : Int} {F : List Pr} (h : Form m F) (hm : m ≤ 2 ^ 64) : Small F := fun x hx => by
  have := h.2 x hx
  omega
theorem cf_items {r : Int → Int} (T : List Pr) (k : Int) : cf (dictA r T) k = (getI (dictA r T) k).getD 0 := by
  have hn := nodup_dictA r T
  generalize dictA r T = D at hn ⊢
  induction D with
  | nil => rfl
  | cons x D ih =>
    rw [List.map_cons, List.nodup_cons] at hn
    rw [cf_cons, ih hn.2]
    unfold getI
    rw [List.find?_cons]
    by_cases e : x.1 = k
    · have : (D.find? fun p => decide (p.1 = k)) = none := by
        rw [List.find?_eq_none]
        intro y hy
        simp
        intro ey
        exact hn.1 (List.mem_map.mpr ⟨y, hy, by rw [ey, e]⟩)
      simp [e, this]
    · simp [e]
theorem put_ok {m m2 : Int} (hm : 0 < m) {A B : List Pr} (hs : Small A) (hl : A.length * B.length < sizeLine) (am : Option Src) :
    f_put_on [ruD m A, ruD m2 B] am = .ret (.st (ruD m (told m (prodL A B)))) am := by
  unfold f_put_on m_put_on
  rw [runF_out]
  simp [ruD, atI_one, atI_zero]
  refine for_go (f := pT) (P := fun r => out r = _) (fun pre s => ∃ a b c d, s = ⟨[.fz (ruD m A), .fz (ruD m2 B), .ow (.dict ((dictA id (prodL pre B)).map kT)), a, b, c, d], am⟩) ⟨_, _, _, _, rfl⟩ ?_ ?_
  · rintro p x q s hA ⟨a, b, c, d, rfl⟩
    refine ⟨_, by simp [pT]; rfl, ?_⟩
    have hx : -(2 ^ 64) < x.2 ∧ x.2 < 2 ^ 64 := hs x (by rw [hA]; simp)
    simp [ruD, atI_one]
    have hpl : (prodL p B).length + B.length ≤ A.length * B.length := by
      rw [length_prodL, hA, List.length_append, List.length_cons, Nat.add_mul, Nat.succ_mul]
      omega
    obtain ⟨s', e, a', b', rfl⟩ := for_inv (t := .tp [.nm 5, .nm 6]) (f := pT) (xs := B) (b := sSetIx (eBin dAdd (eGet2 (eVar 2) (eBin dAdd (eVar 3) (eVar 5)) (eC (.int 0))) (eBin dMul (eVar 4) (eVar 6))) (eVar 2) (eBin dAdd (eVar 3) (eVar 5)))
      (s := ⟨[.fz (ruD m A), .fz (ruD m2 B), .ow (.dict ((dictA id (prodL p B)).map kT)), .fz (.int x.1), .fz (.int x.2), c, d], am⟩)
      (fun pre s => ∃ a b, s = ⟨[.fz (ruD m A), .fz (ruD m2 B), .ow (.dict ((dictA id (prodL p B ++ pre.map fun y => (x.1 + y.1, x.2 * y.2))).map kT)), .fz (.int x.1), .fz (.int x.2), a, b], am⟩) ⟨c, d, by simp⟩ (by
        rintro p2 y q2 s hB ⟨a', b', rfl⟩
        refine ⟨_, by simp [pT]; rfl, _, .inl ?_, .fz (.int y.1), .fz (.int y.2), rfl⟩
        rw [List.map_append, List.map_singleton, ← List.append_assoc, dictA_snoc]
        have hl2 := length_dictA id (prodL p B ++ p2.map fun y => (x.1 + y.1, x.2 * y.2))
        have hlt : (dictA id (prodL p B ++ p2.map fun y => (x.1 + y.1, x.2 * y.2))).length < sizeLine := by
          rw [List.length_append, List.length_map] at hl2
          have : B.length = p2.length + (q2.length + 1) := by rw [hB]; simp
          omega
        unfold accD
        have hmul : MulOk x.2 y.2 := mulOk_left hx
        cases hg : getI (dictA id (prodL p B ++ p2.map fun y => (x.1 + y.1, x.2 * y.2))) (x.1 + y.1) with
        | none => simp [hg, hmul, hlt]
        | some v => simp [hg, hmul, hlt])
    refine ⟨_, .inl e, .fz (.int x.1), .fz (.int x.2), a', b', ?_⟩
    rw [prodL_append]
    simp [prodL]
    exact ⟨rfl, rfl⟩
  · rintro s' ⟨a, b, c, d, rfl⟩
    have hl2 := length_dictA id (prodL A B)
    have hlt : (dictA id (prodL A B)).length < sizeLine := by rw [length_prodL] at hl2; omega
    simp [ruD, atI_zero]
    rw [told_ok hm hlt (.inl rfl)]
    have e : told m (dictA id (prodL A B)) = told m (prodL A B) := told_congr fun p => by rw [cf_items, val_id]
    rw [e]
    have hn := noRef_ruD m (told m (prodL A B))
    simp [hn]
    rfl
theorem on_ok {m m2 : Int} (hm : 0 < m) {A B : List Pr} (hs : Small A) (hl : A.length * B.length < sizeLine) (hsp : spanL (told m (prodL A B)) ≤ 400) (am : Option Src) :
    f_rules_on [ruD m A, ruD m2 B] am = .ret (.st (ruD m (told m (prodL A B)))) am := by
  unfold f_rules_on m_rules_on
  rw [runF_out]
  simp [put_ok hm hs hl, noRef_ruD, made_ok hsp]
theorem and_ok {m m2 : Int} (hm : 0 < m) {A B : List Pr} (hl : A.length + B.length < sizeLine) (hsp : spanL (told m (A ++ B)) ≤ 400) (am : Option Src) :
    f_rules_and [ruD m A, ruD m2 B] am = .ret (.st (ruD m (told m (A ++ B)))) am := by
  unfold f_rules_and m_rules_and
  rw [runF_out]
  have h := told_ok hm (T := A ++ B) (by simpa using hl) (d := .tuple ((A ++ B).map pT)) (.inr rfl) am
  rw [List.map_append] at h
  have hle : A.length + B.length ≤ sizeLine := by omega
  have hn := noRef_ruD m (told m (A ++ B))
  have hn2 := noRef_ruD m A
  have hn3 := noRef_ruD m2 B
  unfold ruD at h hn hn2 hn3 ⊢
  simp [atI_zero, atI_one, hle, h, hn]
  have := made_ok (m := m) hsp am
  unfold ruD at this
  simp [this]
theorem turned_ok {m : Int} (hm : 0 < m) {A : List Pr} (hl : A.length < sizeLine) (am : Option Src) :
    f_rule_turned [ruD m A] am = .ret (.st (ruD m (told m (A.map fun x => (-x.1, x.2))))) am := by
  unfold f_rule_turned m_rule_turned
  rw [runF_out]
  simp [ruD, atI_zero, atI_one]
  rw [compL_all (f := pT) (g := fun x => pT (-x.1, x.2)) _ (fun x hx => ⟨⟨[.fz (.tuple [.int m, .tuple (A.map pT)]), .fz (.int x.1), .fz (.int x.2)], am⟩, by simp [pT], ⟨.st (pT (-x.1, x.2)), by simp [pT], rfl⟩, by simp⟩) (by omega)]
  have h := told_ok hm (T := A.map fun x => (-x.1, x.2)) (by simpa using hl) (.inl rfl) am
  rw [List.map_map] at h
  have hn := noRef_ruD m (told m (A.map fun x => (-x.1, x.2)))
  unfold ruD at h hn
  have e : (pT ∘ fun x : Pr => (-x.1, x.2)) = fun x => pT (-x.1, x.2) := rfl
  rw [e] at h
  simp [h, hn]
theorem moved_ok {m a : Int} {A : List Pr} (hl : A.length < sizeLine) (am : Option Src) :
    f_rule_moved [ruD m A, .int a] am = .ret (.st (ruD m (A.map fun x => (x.1 + a, x.2)))) am := by
  unfold f_rule_moved m_rule_moved
  rw [runF_out]
  simp [ruD, atI_zero, atI_one]
  rw [compL_all (f := pT) (g := fun x => pT (x.1 + a, x.2)) _ (fun x hx => ⟨⟨[.fz (.tuple [.int m, .tuple (A.map pT)]), .fz (.int a), .fz (.int x.1), .fz (.int x.2)], am⟩, by simp [pT], ⟨.st (pT (x.1 + a, x.2)), by simp [pT], rfl⟩, by simp⟩) (by omega)]
  simp
theorem split_ok {m d : Int} (hd : 0 < d) {A : List Pr} (hl : A.length < sizeLine) (am : Option Src) :
    f_rule_split [ruD m A, .int d] am = .ret (.st (ruD d (told d A))) am := by
  unfold f_rule_split m_rule_split
  rw [runF_out]
  have h := told_ok hd hl (.inr rfl) am
  have hn := noRef_ruD d (told d A)
  simp [ruD, atI_one]
  unfold ruD at h hn
  simp [h, hn]
end Rf

namespace Rf
open PySem PySem.Spec PyProof.Rows L2

def PrimeI (p : Int) : Prop := 2 ≤ p ∧ ∀ d, 2 ≤ d → d ∣ p → d = p
theorem PrimeI.dvd_mul {q a b : Int} (h : PrimeI q) (hd : q ∣ a * b) : q ∣ a ∨ q ∣ b := by
  by_cases ha : q ∣ a
  · exact .inl ha
  · right
    have hg : Int.gcd q a = 1 := by
      apply Classical.byContradiction
      intro hn
      have h1 : ((Int.gcd q a : Nat) : Int) ∣ q := Int.gcd_dvd_left ..
      have h2 : ((Int.gcd q a : Nat) : Int) ∣ a := Int.gcd_dvd_right ..
      have h0 : Int.gcd q a ≠ 0 := by
        intro e
        rw [Int.gcd_eq_zero_iff] at e
        have := h.1
        omega
      have := h.2 _ (by omega) h1
      rw [this] at h2
      exact ha h2
    have h1 : Nat.Coprime q.natAbs a.natAbs := hg
    have h2 : q.natAbs ∣ a.natAbs * b.natAbs := by rw [← Int.natAbs_mul]; exact Int.natAbs_dvd_natAbs.mpr hd
    exact Int.natAbs_dvd_natAbs.mp (h1.dvd_of_dvd_mul_left h2)
theorem asc_length : ∀ {ps : List Int} {lo L : Int}, ps.Pairwise (· < ·) → (∀ p ∈ ps, lo ≤ p ∧ p ≤ L) → (ps.length : Int) ≤ L - lo + 1 ∨ ps = []
  | [], _, _, _, _ => .inr rfl
  | p :: ps, lo, L, h, hb => by
    left
    rw [List.pairwise_cons] at h
    have h1 := hb p List.mem_cons_self
    rcases asc_length (lo := p + 1) (L := L) h.2 (fun q hq => ⟨by have := h.1 q hq; omega, (hb q (List.mem_cons_of_mem _ hq)).2⟩) with e | e
    · rw [List.length_cons]; omega
    · subst e; simp; omega
@[simp] theorem inD_ints (a : Int) (l : List Int) : inD (.int a) (l.map PyData.int) = decide (a ∈ l) := by
  unfold inD
  induction l with
  | nil => simp
  | cons b l ih =>
    rw [List.map_cons, List.any_cons, ih]
    by_cases h : a = b
    · subst h; simp [PyData.eqv]
    · have : ¬ b = a := fun e => h e.symm
      simp [PyData.eqv, h, this]
theorem flat_ints (l : List Int) : (l.map PyData.int).all flatD = true := by
  rw [List.all_eq_true]
  intro x hx
  obtain ⟨i, _, rfl⟩ := List.mem_map.mp hx
  rfl
@[simp] theorem dIn_ints (a : Int) (l : List Int) : dIn (.int a) (.list (l.map PyData.int)) = some (.st (.bool (decide (a ∈ l)))) := by
  unfold dIn
  simp only [dInB]
  rw [if_pos (by rw [flat_ints]; rfl)]
  simp
@[simp] theorem dNotIn_ints (a : Int) (l : List Int) : dNotIn (.int a) (.list (l.map PyData.int)) = some (.st (.bool (!decide (a ∈ l)))) := by
  unfold dNotIn
  simp only [dInB]
  rw [if_pos (by rw [flat_ints]; rfl)]
  simp
structure PrimesAt (n : Int) (ps : List Int) (left late : Int) : Prop where
  l1 : 1 ≤ left
  l2 : 2 ≤ late
  asc : ps.Pairwise (· < ·)
  le : ∀ p ∈ ps, p ≤ late
  pr : ∀ p ∈ ps, PrimeI p ∧ p ∣ n
  all : ∀ q, PrimeI q → q ∣ n → q ∈ ps ∨ q ∣ left
  low : ∀ d, 2 ≤ d → d ∣ left → late ≤ d
  div : left ∣ n
structure IsPrimes (n : Int) (ps : List Int) : Prop where
  asc : ps.Pairwise (· < ·)
  iff : ∀ q, q ∈ ps ↔ PrimeI q ∧ q ∣ n
theorem primes_ok {n : Int} (hn : 1 ≤ n) (hs : n < 1000000) (am : Option Src) : ∃ ps, IsPrimes n ps ∧ f_primes_of [.int n] am = .ret (.st (.tuple (ps.map PyData.int))) am := by
  unfold f_primes_of m_primes_of
  rw [runF_out]
  simp
  refine while_go (P := fun r => ∃ ps, IsPrimes n ps ∧ out r = .ret (.st (.tuple (ps.map PyData.int))) am)
    (fun s => ∃ ps left late, PrimesAt n ps left late ∧ s = ⟨[.fz (.int n), .ow (.list (ps.map PyData.int)), .fz (.int left), .fz (.int late)], am⟩)
    (fun s => match s.env with | [_, _, .fz (.int left), .fz (.int late)] => (2 * left - late).toNat | _ => 0)
    (fun s => ∃ ps, IsPrimes n ps ∧ ∃ left late, s = ⟨[.fz (.int n), .ow (.list (ps.map PyData.int)), .fz (.int left), .fz (.int late)], am⟩) ?_ ?_ ?_
  · refine ⟨[], n, 2, ⟨hn, by omega, .nil, by simp, by simp, fun q _ hq => .inr hq, fun d hd _ => hd, Int.dvd_refl n⟩, by simp⟩
  · rintro s ⟨ps, left, late, I, rfl⟩
    by_cases h1 : 1 < left
    · refine ⟨_, .inl ⟨by simp [h1]; rfl, ?_⟩⟩
      have hll : late ≤ left := I.low left (by omega) (Int.dvd_refl _)
      have hlate : 0 < late := by have := I.l2; omega
      have hleft : left ≤ n := Int.le_of_dvd (by omega) I.div
      by_cases hd : left % late = 0
      · have hdvd : late ∣ left := Int.dvd_of_emod_eq_zero hd
        have hprime : PrimeI late := ⟨I.l2, fun d h2 h3 => by
          have h4 := I.low d h2 (Int.dvd_trans h3 hdvd)
          have h5 := Int.le_of_dvd hlate h3
          omega⟩
        have hlen : ps.length < 1000000 := by
          rcases asc_length (lo := 2) (L := late) I.asc (fun p hp => ⟨(I.pr p hp).1.1, I.le p hp⟩) with e | e
          · omega
          · subst e; simp
        have hz := size_big
        have hdv : DivOk late := ⟨hlate, .inl (by omega)⟩
        have hq1 : 1 ≤ left / late := by
          have := Int.ediv_mul_cancel hdvd
          rcases Int.lt_or_le (left / late) 1 with h | h
          · have : left / late * late ≤ 0 * late := Int.mul_le_mul_of_nonneg_right (by omega) (by omega)
            omega
          · exact h
        have hmul : left = late * (left / late) := by rw [Int.mul_comm]; exact (Int.ediv_mul_cancel hdvd).symm
        have hq2 : 2 * (left / late) ≤ left := by
          have : 2 * (left / late) ≤ late * (left / late) := Int.mul_le_mul_of_nonneg_right I.l2 (by omega)
          omega
        by_cases hin : late ∈ ps
        · refine ⟨⟨[.fz (.int n), .ow (.list (ps.map PyData.int)), .fz (.int (left / late)), .fz (.int late)], am⟩, .inl ?_, ⟨ps, left / late, late, ⟨hq1, I.l2, I.asc, I.le, I.pr, fun q h1 h2 => ?_, fun d h2 h3 => I.low d h2 ?_, ?_⟩, rfl⟩, ?_⟩
          · simp [hlate, hd, hin, hdv, show ps.length ≤ sizeLine by omega]
          · rcases I.all q h1 h2 with h | h
            · exact .inl h
            · rw [hmul] at h
              rcases h1.dvd_mul h with h | h
              · have := hprime.2 q h1.1 h
                exact .inl (this ▸ hin)
              · exact .inr h
          · rw [hmul]; exact Int.dvd_trans h3 (Int.dvd_mul_left _ _)
          · exact Int.dvd_trans ⟨late, by rw [Int.mul_comm]; exact hmul⟩ I.div
          · simp; omega
        · refine ⟨⟨[.fz (.int n), .ow (.list ((ps ++ [late]).map PyData.int)), .fz (.int (left / late)), .fz (.int late)], am⟩, .inl ?_, ⟨ps ++ [late], left / late, late, ⟨hq1, I.l2, ?_, fun p hp => ?_, fun p hp => ?_, fun q h1 h2 => ?_, fun d h2 h3 => I.low d h2 ?_, ?_⟩, rfl⟩, ?_⟩
          · simp [hlate, hd, hin, hdv, show ps.length + 1 ≤ sizeLine by omega]
          · rw [List.pairwise_append]
            refine ⟨I.asc, by simp, fun a ha b hb => ?_⟩
            have eb : b = late := by simpa using hb
            have h1 := I.le a ha
            have h2 : a ≠ late := fun e => hin (e ▸ ha)
            omega
          · rcases List.mem_append.mp hp with h | h
            · exact I.le p h
            · simp at h; omega
          · rcases List.mem_append.mp hp with h | h
            · exact I.pr p h
            · have e : p = late := by simpa using h
              rw [e]; exact ⟨hprime, Int.dvd_trans hdvd I.div⟩
          · rcases I.all q h1 h2 with h | h
            · exact .inl (List.mem_append_left _ h)
            · rw [hmul] at h
              rcases h1.dvd_mul h with h | h
              · have := hprime.2 q h1.1 h
                exact .inl (by simp [this])
              · exact .inr h
          · rw [hmul]; exact Int.dvd_trans h3 (Int.dvd_mul_left _ _)
          · exact Int.dvd_trans ⟨late, by rw [Int.mul_comm]; exact hmul⟩ I.div
          · simp; omega
      · refine ⟨⟨[.fz (.int n), .ow (.list (ps.map PyData.int)), .fz (.int left), .fz (.int (late + 1))], am⟩, .inl (by simp [hlate, hd]), ⟨ps, left, late + 1, ⟨I.l1, by have := I.l2; omega, I.asc, fun p hp => by have := I.le p hp; omega, I.pr, I.all, fun d h2 h3 => ?_, I.div⟩, rfl⟩, by simp; omega⟩
        have h4 := I.low d h2 h3
        have : d ≠ late := fun e => hd (by rw [← e]; exact Int.emod_eq_zero_of_dvd h3)
        omega
    · refine ⟨_, .inr ⟨by simp [h1], ps, ⟨I.asc, fun q => ⟨fun h => I.pr q h, fun h => ?_⟩⟩, left, late, rfl⟩⟩
      rcases I.all q h.1 h.2 with h2 | h2
      · exact h2
      · have h3 : left = 1 := by have := I.l1; omega
        rw [h3] at h2
        have := Int.le_of_dvd (by omega) h2
        have := h.1.1
        omega
  · rintro s' ⟨ps, hps, left, late, rfl⟩
    exact ⟨ps, hps, by simp⟩
end Rf

namespace Rf
open PySem PySem.Spec PyProof.Rows L2
theorem noRefs_ints (l : List Int) : noRefs (l.map PyData.int) = true := noRefs_map (fun _ => noRef_i) l
structure PrimePows (n : Int) (L : List Pr) : Prop where
  pr : IsPrimes n (L.map (·.1))
  pow : ∀ x ∈ L, 1 ≤ x.2 ∧ ∃ left, n = x.1 ^ x.2.toNat * left ∧ ¬ x.1 ∣ left
theorem powers_ok {n : Int} (hn : 1 ≤ n) (hs : n < 1000000) (am : Option Src) : ∃ L, PrimePows n L ∧ f_prime_powers [.int n] am = .ret (.st (.tuple (L.map pT))) am := by
  obtain ⟨ps, hps, e⟩ := primes_ok hn hs am
  unfold f_prime_powers m_prime_powers
  rw [runF_out]
  simp [e, noRefs_ints]
  have hlen : ps.length < 1000000 := by
    rcases asc_length (lo := 2) (L := n) hps.asc (fun p hp => ⟨((hps.iff p).mp hp).1.1, Int.le_of_dvd (by omega) ((hps.iff p).mp hp).2⟩) with e | e
    · omega
    · subst e; simp
  have hz := size_big
  refine for_gx (f := PyData.int) (P := fun r => ∃ L, PrimePows n L ∧ out r = .ret (.st (.tuple (L.map pT))) am)
    (fun pre s => ∃ L : List Pr, L.map (·.1) = pre ∧ (∀ x ∈ L, 1 ≤ x.2 ∧ ∃ left, n = x.1 ^ x.2.toNat * left ∧ ¬ x.1 ∣ left) ∧ ∃ a b c, s = ⟨[.fz (.int n), .ow (.list (L.map pT)), a, b, c], am⟩) ⟨[], rfl, by simp, _, _, _, rfl⟩ ?_ ?_
  · rintro p x q s hp ⟨L, hL, hpow, a, b, c, rfl⟩
    have hx : PrimeI x ∧ x ∣ n := (hps.iff x).mp (by rw [hp]; simp)
    have hx2 := hx.1.1
    have hdv : DivOk x := ⟨by omega, .inl (by have := Int.le_of_dvd (by omega) hx.2; omega)⟩
    have hLl : L.length < sizeLine := by
      have : L.length = p.length := by rw [← hL]; simp
      have : p.length < ps.length := by rw [hp]; simp
      omega
    refine ⟨_, by simp; rfl, goes_q fun Q hQ => ?_⟩
    simp
    refine while_gx (P := fun r => Goes r Q) (fun s => ∃ (k : Nat) (left : Int), n = x ^ k * left ∧ 1 ≤ left ∧ (1 ≤ k ∨ x ∣ left) ∧ s = ⟨[.fz (.int n), .ow (.list (L.map pT)), .fz (.int x), .fz (.int k), .fz (.int left)], am⟩)
      (fun s => match s.env with | [_, _, _, _, .fz (.int left)] => left.toNat | _ => 0)
      (fun s => ∃ (k : Nat) (left : Int), n = x ^ k * left ∧ ¬ x ∣ left ∧ 1 ≤ k ∧ s = ⟨[.fz (.int n), .ow (.list (L.map pT)), .fz (.int x), .fz (.int k), .fz (.int left)], am⟩) ?_ ?_ ?_
    · exact ⟨0, n, by simp, hn, .inr hx.2, rfl⟩
    · rintro s ⟨k, left, e1, e2, e3, rfl⟩
      by_cases hd : left % x = 0
      · have hdvd : x ∣ left := Int.dvd_of_emod_eq_zero hd
        have hmul := Int.ediv_mul_cancel hdvd
        have hq : 1 ≤ left / x := by
          rcases Int.lt_or_le (left / x) 1 with h | h
          · have : left / x * x ≤ 0 * x := Int.mul_le_mul_of_nonneg_right (by omega) (by omega)
            omega
          · exact h
        have hq2 : 2 * (left / x) ≤ left := by
          have : 2 * (left / x) ≤ x * (left / x) := Int.mul_le_mul_of_nonneg_right hx2 (by omega)
          rw [Int.mul_comm x] at this
          omega
        refine ⟨_, .inl ⟨by simp [show 0 < x by omega, hd]; rfl, goes_of (s := ⟨[.fz (.int n), .ow (.list (L.map pT)), .fz (.int x), .fz (.int (k + 1 : Nat)), .fz (.int (left / x))], am⟩) (by simp [hdv]) ⟨⟨k + 1, left / x, ?_, hq, .inl (by omega), rfl⟩, ?_⟩⟩⟩
        · rw [Int.pow_succ, Int.mul_assoc, Int.mul_comm x, hmul]
          exact e1
        · show (left / x).toNat < left.toNat
          omega
      · refine ⟨_, .inr ⟨by simp [show 0 < x by omega, hd], k, left, e1, fun h => hd (Int.emod_eq_zero_of_dvd h), ?_, rfl⟩⟩
        rcases e3 with h | h
        · exact h
        · exact absurd (Int.emod_eq_zero_of_dvd h) hd
    · rintro s' ⟨k, left, e1, e2, e3, rfl⟩
      simp [hLl]
      refine hQ _ ⟨L ++ [(x, (k : Int))], by simp [hL], fun y hy => ?_, .fz (.int x), .fz (.int k), .fz (.int left), by simp [pT]⟩
      · rcases List.mem_append.mp hy with h | h
        · exact hpow y h
        · have ey : y = (x, (k : Int)) := by simpa using h
          rw [ey]
          exact ⟨by show (1 : Int) ≤ k; omega, left, by simpa using e1, e2⟩
  · rintro s' ⟨L, hL, hpow, a, b, c, rfl⟩
    exact ⟨L, ⟨by rw [hL]; exact hps, hpow⟩, by simp⟩
def leastS (ps : List Int) (F : List Pr) (many : Int) : Int := ps.foldl (fun acc p => if (if told p F = [] then 0 else many * (spanL (told p F) - 1) + 1) > acc then (if told p F = [] then 0 else many * (spanL (told p F) - 1) + 1) else acc) 0
theorem leastS_snoc (ps : List Int) (p : Int) (F : List Pr) (many : Int) : leastS (ps ++ [p]) F many =
    if (if told p F = [] then 0 else many * (spanL (told p F) - 1) + 1) > leastS ps F many then (if told p F = [] then 0 else many * (spanL (told p F) - 1) + 1) else leastS ps F many := by
  unfold leastS
  rw [List.foldl_append]
  rfl
theorem dNe_pairs (F : List Pr) : dNe (.tuple (F.map pT)) (.tuple []) = some (.st (.bool (!decide (F = [])))) := by
  rw [dNe_nil]
  cases F <;> simp
theorem least_ok {m : Int} (hm : 1 ≤ m) (hs : m < 1000000) {F : List Pr} (hF : F.length < sizeLine) {many : Int} (hk : -(2 ^ 64) < many ∧ many < 2 ^ 64) (am : Option Src) :
    ∃ ps, IsPrimes m ps ∧ f_least_span [ruD m F, .int many] am = .ret (.st (.int (leastS ps F many))) am := by
  obtain ⟨L, hL, e⟩ := powers_ok hm hs am
  refine ⟨L.map (·.1), hL.pr, ?_⟩
  unfold f_least_span m_least_span
  rw [runF_out]
  simp [ruD, atI_zero, e, noRefs_map noRef_pT]
  refine for_gx (f := pT) (P := fun r => out r = _) (fun pre s => ∃ a b c, s = ⟨[.fz (ruD m F), .fz (.int many), .fz (.int (leastS (pre.map (·.1)) F many)), a, b, c], am⟩) ⟨_, _, _, rfl⟩ ?_ ?_
  · rintro p x q s hp ⟨a, b, c, rfl⟩
    have hx : PrimeI x.1 := ((hL.pr.iff x.1).mp (by rw [hp]; simp)).1
    have hx0 : 0 < x.1 := by have := hx.1; omega
    refine ⟨_, by simp [pT]; rfl, goes_of (s := ⟨[.fz (ruD m F), .fz (.int many), .fz (.int (leastS ((p ++ [x]).map (·.1)) F many)), .fz (.int x.1), .fz (.int x.2), .fz (ruD x.1 (told x.1 F))], am⟩) ?_ ⟨_, _, _, rfl⟩⟩
    have hsp := split_ok (m := m) hx0 hF am
    have hn := noRef_ruD x.1 (told x.1 F)
    have hspan := span_ok (m := x.1) (told x.1 F) am
    rw [List.map_append, List.map_singleton, leastS_snoc]
    simp [hsp, hn]
    unfold ruD at hspan hn ⊢
    have hmul : MulOk many (spanL (told x.1 F) - 1) := mulOk_left hk
    by_cases h0 : told x.1 F = []
    · have d0 := dNe_pairs []
      simp at d0
      simp [atI_one, d0, h0]
    · simp [atI_one, dNe_pairs, h0, hspan, hn, hmul]
  · rintro s' ⟨a, b, c, rfl⟩
    simp
theorem leastS_le {m : Int} {ps : List Int} {F : List Pr} {many B : Int} (hB : 0 ≤ B) (h : ∀ p ∈ ps, told p F ≠ [] → many * (spanL (told p F) - 1) + 1 ≤ B) : leastS ps F many ≤ B := by
  refine snoc_ind (P := fun ps => (∀ p ∈ ps, told p F ≠ [] → many * (spanL (told p F) - 1) + 1 ≤ B) → leastS ps F many ≤ B) (fun _ => hB) (fun T x ih h => ?_) ps h
  rw [leastS_snoc]
  have h1 := ih fun p hp => h p (List.mem_append_left _ hp)
  have h2 := h x (by simp)
  by_cases h0 : told x F = []
  · simp only [h0, if_true]
    split <;> omega
  · simp only [h0, if_false]
    have := h2 h0
    split <;> omega
theorem powL_two (m : Int) (F : List Pr) (n : Nat) : Eqm m (prodL (powL F n) (powL F n)) (powL F (2 * n)) := by
  have := (eqm_pow_add m F n n).symm
  rwa [show n + n = 2 * n by omega] at this
theorem sorted_length : ∀ {F : List Pr} {lo hi : Int}, Sorted F → Within lo hi F → (F.length : Int) ≤ hi - lo + 1 ∨ F = []
  | [], _, _, _, _ => .inr rfl
  | x :: F, lo, hi, h, w => by
    left
    have h' := List.pairwise_cons.mp h
    have h1 := w x List.mem_cons_self
    rcases sorted_length (lo := x.1 + 1) (hi := hi) h'.2 (fun y hy => ⟨by have := h'.1 y hy; omega, (w y (List.mem_cons_of_mem _ hy)).2⟩) with e | e
    · rw [List.length_cons]; omega
    · subst e; simp; omega
theorem told_one {m : Int} (hm : 1 < m) : told m [(0, 1)] = [(0, 1)] := told_self ⟨by simp [Sorted], fun x hx => by
  have e : x = (0, 1) := by simpa using hx
  rw [e]
  exact ⟨by decide, hm⟩⟩
theorem told_pow_one {m : Int} {F : List Pr} (hF : Form m F) : told m (powL F 1) = F := (Eqm.told (eqm_one' m F)).trans (told_self hF)
theorem told_prod {m : Int} (A B : List Pr) : told m (prodL (told m A) (told m B)) = told m (prodL A B) := Eqm.told ((eqm_told m A).prod (eqm_told m B))
theorem inside_ok {m : Int} (hm : 1 < m) (hm2 : m ≤ 2 ^ 64) {F : List Pr} (hF : Form m F) {many N : Nat} (hN : ∀ n ≤ many, (told m (powL F n)).length ≤ N) (hN2 : N * N < sizeLine) (hb : (many : Int) < 2 ^ 62) (am : Option Src) :
    f_taken_inside [ruD m F, .int many] am = .ret (.st (ruD m (told m (powL F many)))) am := by
  have hput : ∀ a b : Nat, a ≤ many → b ≤ many → f_put_on [ruD m (told m (powL F a)), ruD m (told m (powL F b))] am = .ret (.st (ruD m (told m (powL F (a + b))))) am := fun a b ha hb => by
    have hl : (told m (powL F a)).length * (told m (powL F b)).length < sizeLine := Nat.lt_of_le_of_lt (Nat.mul_le_mul (hN a ha) (hN b hb)) hN2
    rw [put_ok (by omega) ((told_form (by omega) _).small hm2) hl, told_prod, Eqm.told (eqm_pow_add m F a b)]
  unfold f_taken_inside m_taken_inside
  rw [runF_out]
  have hn : ∀ n, noRef (ruD m (told m (powL F n))) = true := fun n => noRef_ruD _ _
  simp [ruD, atI_zero, one_ok]
  refine while_gx (P := fun r => out r = _) (fun s => ∃ i b l : Nat, b + i * l = many ∧ (0 < l → i ≤ many) ∧ s = ⟨[.fz (ruD m F), .fz (.int many), .fz (ruD m (told m (powL F b))), .fz (ruD m (told m (powL F i))), .fz (.int l)], am⟩)
    (fun s => match s.env with | [_, _, _, _, .fz (.int l)] => l.toNat | _ => 0)
    (fun s => ∃ a, s = ⟨[.fz (ruD m F), .fz (.int many), .fz (ruD m (told m (powL F many))), a, .fz (.int 0)], am⟩) ?_ ?_ ?_
  · refine ⟨1, 0, many, by omega, fun h => by omega, ?_⟩
    rw [told_pow_one hF]
    show _ = (⟨[_, _, .fz (ruD m (told m [(0, 1)])), _, _], am⟩ : S)
    rw [told_one hm]
    rfl
  · rintro s ⟨i, b, l, h1, h2, rfl⟩
    by_cases hl : 0 < l
    · have hi := h2 hl
      have hbl : b ≤ many := by omega
      refine ⟨_, .inl ⟨by simp [hl]; rfl, ?_⟩⟩
      have hdv : DivOk 2 := ⟨by decide, .inl (by decide)⟩
      have e2 : ((l : Int) / 2) = ((l / 2 : Nat) : Int) := by omega
      have hil : i ≤ i * l := Nat.le_mul_of_pos_right i hl
      have key : ∀ h : Nat, 0 < h → (i + i) * h + (l % 2) * i = i * l → i + i ≤ many := fun h h0 e => by
        have : i + i ≤ (i + i) * h := Nat.le_mul_of_pos_right _ h0
        omega
      have e3 : (i + i) * (l / 2) + (l % 2) * i = i * l := by
        have : l = 2 * (l / 2) + l % 2 := by omega
        conv => rhs; rw [this]
        rw [Nat.mul_add, Nat.add_mul, ← Nat.mul_assoc, Nat.mul_comm i 2, Nat.two_mul, Nat.add_mul, Nat.mul_comm i (l % 2)]
      have hii := key (l / 2)
      by_cases ho : (l : Int) % 2 = 1
      · have ho' : l % 2 = 1 := by omega
        rw [ho', Nat.one_mul] at e3
        have hsum : i + b ≤ many := by omega
        by_cases hh : 0 < l / 2
        · refine goes_of (s := ⟨[.fz (ruD m F), .fz (.int many), .fz (ruD m (told m (powL F (i + b)))), .fz (ruD m (told m (powL F (i + i)))), .fz (.int (l / 2 : Nat))], am⟩) ?_ ⟨⟨i + i, i + b, l / 2, by omega, fun h => hii h (by rw [ho', Nat.one_mul]; exact e3), rfl⟩, ?_⟩
          · simp [ho, hput i b hi hbl, hput i i hi hi, hdv, hn, show (0 : Int) < (l : Int) / 2 by omega]
          · simp; omega
        · refine goes_of (s := ⟨[.fz (ruD m F), .fz (.int many), .fz (ruD m (told m (powL F (i + b)))), .fz (ruD m (told m (powL F i))), .fz (.int (l / 2 : Nat))], am⟩) ?_ ⟨⟨i, i + b, l / 2, ?_, fun h => absurd h hh, rfl⟩, ?_⟩
          · simp [ho, hput i b hi hbl, hdv, hn, show ¬ (0 : Int) < (l : Int) / 2 by omega]
          · have : l / 2 = 0 := by omega
            rw [this] at e3 ⊢
            omega
          · simp; omega
      · have ho' : l % 2 = 0 := by omega
        rw [ho', Nat.zero_mul] at e3
        have hh : 0 < l / 2 := by omega
        refine goes_of (s := ⟨[.fz (ruD m F), .fz (.int many), .fz (ruD m (told m (powL F b))), .fz (ruD m (told m (powL F (i + i)))), .fz (.int (l / 2 : Nat))], am⟩) ?_ ⟨⟨i + i, b, l / 2, by omega, fun h => hii h (by rw [ho', Nat.zero_mul]; exact e3), rfl⟩, ?_⟩
        · simp [ho, hput i i hi hi, hdv, hn, show (0 : Int) < (l : Int) / 2 by omega]
        · simp; omega
    · have e0 : l = 0 := by omega
      subst e0
      have eb : b = many := by omega
      subst eb
      exact ⟨⟨[.fz (ruD m F), .fz (.int b), .fz (ruD m (told m (powL F b))), .fz (ruD m (told m (powL F i))), .fz (.int 0)], am⟩, .inr ⟨by simp, _, rfl⟩⟩
  · rintro s' ⟨a, rfl⟩
    simp [ruD]
theorem taken_ok {m : Int} (hm : 1 < m) (hm2 : m < 1000000) {F : List Pr} (hF : Form m F) {many N : Nat} (hN : ∀ n ≤ many, (told m (powL F n)).length ≤ N) (hN2 : N * N < sizeLine) (hb : (many : Int) < 2 ^ 62) (hFl : F.length < sizeLine)
    (h400 : ∀ ps, IsPrimes m ps → leastS ps F many ≤ 400) (hsp : spanL (told m (powL F many)) ≤ 400) (am : Option Src) :
    f_rule_taken [ruD m F, .int many] am = .ret (.st (ruD m (told m (powL F many)))) am := by
  obtain ⟨ps, hps, e⟩ := least_ok (m := m) (by omega) hm2 hFl (many := many) (by omega) am
  unfold f_rule_taken m_rule_taken
  rw [runF_out]
  have h1 : ¬ 400 < leastS ps F many := by have := h400 ps hps; omega
  simp [e, h1, inside_ok hm (by omega) hF hN hN2 hb, noRef_ruD, made_ok hsp]
end Rf

namespace Rf
open PySem PySem.Spec PyProof.Rows L2

@[simp] theorem isSrc_src : isSrc (.st (.dict [(.none, .none)])) = true := rfl
@[simp] theorem get_left {src : Src} : srcGet src "left" = some ((src.left : Nat) : Int) := by unfold srcGet; rw [if_pos rfl]
@[simp] theorem get_mixed {src : Src} : srcGet src "mixed" = some ((src.mixed : Nat) : Int) := by unfold srcGet; rw [if_neg (Ne.symm sLM), if_pos rfl]
@[simp] theorem get_turn {src : Src} : srcGet src "turn" = some ((src.turn : Nat) : Int) := by unfold srcGet; rw [if_neg (Ne.symm sLT), if_neg (Ne.symm sMT), if_pos rfl]
@[simp] theorem put_left {src : Src} {n : Nat} : srcPut src "left" n = some { src with left := n } := by unfold srcPut; rw [if_pos rfl]
@[simp] theorem put_mixed {src : Src} {n : Nat} : srcPut src "mixed" n = some { src with mixed := n } := by unfold srcPut; rw [if_neg (Ne.symm sLM), if_pos rfl]
@[simp] theorem put_turn {src : Src} {n : Nat} : srcPut src "turn" n = some { src with turn := n } := by unfold srcPut; rw [if_neg (Ne.symm sLT), if_neg (Ne.symm sMT), if_pos rfl]
def PickOk (many : Int) : Prop := many < 1073741824 ∨ many.natAbs.log2 < 9000
theorem PickOk.div {many : Int} (h : PickOk many) : DivOk (if many > 1 then many else 1) := by
  unfold DivOk
  split
  · rcases h with h | h
    · exact ⟨by omega, .inl h⟩
    · exact ⟨by omega, .inr h⟩
  · exact ⟨by omega, .inl (by omega)⟩
theorem mix1 {s : S} {mx t : Int} (h1 : eSrcGet "mixed" (eVar 0) s = .ok (.st (.int mx)) s) (h2 : eSrcGet "turn" (eVar 0) s = .ok (.st (.int t)) s) : eBin dMod (eCall dInt (aCons (eBin dAdd (eSrcGet "mixed" (eVar 0)) (eBin dMul (eSrcGet "turn" (eVar 0)) (eC (.int 104729)))) (aNil))) (eC (.int 998244353)) s = .ok (.st (.int ((mx + t * 104729) % 998244353))) s := by
  have m1 : MulOk t 104729 := mulOk_right (by omega)
  simp [-eSrcGet_ap, h1, h2, m1]
theorem mix2 {s : S} {x t : Int} (hx : 0 ≤ x ∧ x < 998244353) (h1 : eVar 3 s = .ok (.st (.int x)) s) (h2 : eSrcGet "turn" (eVar 0) s = .ok (.st (.int t)) s) : eBin dMod (eCall dInt (aCons (eBin dAdd (eBin dMul (eVar 3) (eVar 3)) (eBin dMul (eSrcGet "turn" (eVar 0)) (eC (.int 17)))) (aNil))) (eC (.int 2147483647)) s = .ok (.st (.int ((x * x + t * 17) % 2147483647))) s := by
  have m1 : MulOk t 17 := mulOk_right (by omega)
  have m2 : MulOk x x := mulOk_right (by omega)
  simp [-eSrcGet_ap, -eVar_ap, h1, h2, m1, m2]
theorem pick_mix1 {src : Src} {many mx t : Int} {a : Slot} (h1 : srcGet src "mixed" = some mx) (h2 : srcGet src "turn" = some t) : sSet 3 (eBin dMod (eCall dInt (aCons (eBin dAdd (eSrcGet "mixed" (eVar 0)) (eBin dMul (eSrcGet "turn" (eVar 0)) (eC (.int 104729)))) (aNil))) (eC (.int 998244353))) ⟨[.fz srcD, .fz (.int many), a, .no], some src⟩ = .ok .nx ⟨[.fz srcD, .fz (.int many), a, .fz (.int ((mx + t * 104729) % 998244353))], some src⟩ := by
  have e1 : eSrcGet "mixed" (eVar 0) ⟨[.fz srcD, .fz (.int many), a, .no], some src⟩ = .ok (.st (.int mx)) ⟨[.fz srcD, .fz (.int many), a, .no], some src⟩ := by simp [-get_mixed, h1, srcD]
  have e2 : eSrcGet "turn" (eVar 0) ⟨[.fz srcD, .fz (.int many), a, .no], some src⟩ = .ok (.st (.int t)) ⟨[.fz srcD, .fz (.int many), a, .no], some src⟩ := by simp [-get_turn, h2, srcD]
  rw [sSet_ap, mix1 e1 e2]
  rfl
theorem pick_mix2 {src : Src} {many x t : Int} {a : Slot} (hx : 0 ≤ x ∧ x < 998244353) (h2 : srcGet src "turn" = some t) : sSet 3 (eBin dMod (eCall dInt (aCons (eBin dAdd (eBin dMul (eVar 3) (eVar 3)) (eBin dMul (eSrcGet "turn" (eVar 0)) (eC (.int 17)))) (aNil))) (eC (.int 2147483647))) ⟨[.fz srcD, .fz (.int many), a, .fz (.int x)], some src⟩ = .ok .nx ⟨[.fz srcD, .fz (.int many), a, .fz (.int ((x * x + t * 17) % 2147483647))], some src⟩ := by
  have e1 : eVar 3 ⟨[.fz srcD, .fz (.int many), a, .fz (.int x)], some src⟩ = .ok (.st (.int x)) ⟨[.fz srcD, .fz (.int many), a, .fz (.int x)], some src⟩ := rfl
  have e2 : eSrcGet "turn" (eVar 0) ⟨[.fz srcD, .fz (.int many), a, .fz (.int x)], some src⟩ = .ok (.st (.int t)) ⟨[.fz srcD, .fz (.int many), a, .fz (.int x)], some src⟩ := by simp [-get_turn, h2, srcD]
  rw [sSet_ap, mix2 hx e1 e2]
  rfl
theorem pick_turn {src : Src} {many : Int} {a : Slot} : sSrcSet "turn" (eBin dAdd (eSrcGet "turn" (eVar 0)) (eC (.int 1))) (eVar 0) ⟨[.fz srcD, .fz (.int many), a, .no], some src⟩ = .ok .nx ⟨[.fz srcD, .fz (.int many), a, .no], some { src with turn := src.turn + 1 }⟩ := by
  have t0 : (0 : Int) ≤ (src.turn : Nat) + 1 := by omega
  simp [srcD, t0]
theorem pick_put {src : Src} {many y : Int} {a : Slot} (h : 0 ≤ y) : sSrcSet "mixed" (eVar 3) (eVar 0) ⟨[.fz srcD, .fz (.int many), a, .fz (.int y)], some src⟩ = .ok .nx ⟨[.fz srcD, .fz (.int many), a, .fz (.int y)], some { src with mixed := y.toNat }⟩ := by
  simp [srcD, h]
theorem pick_tail {src : Src} {many : Int} {a : Slot} (hm : 2 ≤ many) : ∃ (r : Int) (src' : Src) (s' : S), (sSeq (sSrcSet "turn" (eBin dAdd (eSrcGet "turn" (eVar 0)) (eC (.int 1))) (eVar 0)) (sSeq (sSet 3 (eBin dMod (eCall dInt (aCons (eBin dAdd (eSrcGet "mixed" (eVar 0)) (eBin dMul (eSrcGet "turn" (eVar 0)) (eC (.int 104729)))) (aNil))) (eC (.int 998244353)))) (sSeq (sSet 3 (eBin dMod (eCall dInt (aCons (eBin dAdd (eBin dMul (eVar 3) (eVar 3)) (eBin dMul (eSrcGet "turn" (eVar 0)) (eC (.int 17)))) (aNil))) (eC (.int 2147483647)))) (sSeq (sSrcSet "mixed" (eVar 3) (eVar 0)) (sRet (eBin dMod (eCall dInt (aCons (eBin dDiv (eVar 3) (eC (.int 16))) (aNil))) (eVar 1))))))) ⟨[.fz srcD, .fz (.int many), a, .no], some src⟩ = .ok (.rt (.st (.int r))) s' ∧ s'.am = some src' ∧ 0 ≤ r ∧ r < many := by
  have hd16 : DivOk 16 := ⟨by decide, .inl (by decide)⟩
  have ht : srcGet ({ src with turn := src.turn + 1 } : Src) "turn" = some ((src.turn + 1 : Nat) : Int) := get_turn
  have hmx : srcGet ({ src with turn := src.turn + 1 } : Src) "mixed" = some ((src.mixed : Nat) : Int) := get_mixed
  generalize ((src.turn + 1 : Nat) : Int) = t at ht
  generalize ((src.mixed : Nat) : Int) = mx at hmx
  have e1 := pick_mix1 (many := many) (a := a) hmx ht
  generalize hx : (mx + t * 104729) % 998244353 = x at e1
  have x0 : 0 ≤ x := by rw [← hx]; exact Int.emod_nonneg _ (by decide)
  have x1 : x < 998244353 := by rw [← hx]; exact Int.emod_lt_of_pos _ (by decide)
  have e2 := pick_mix2 (many := many) (a := a) ⟨x0, x1⟩ ht
  generalize hy : (x * x + t * 17) % 2147483647 = y at e2
  have y0 : 0 ≤ y := by rw [← hy]; exact Int.emod_nonneg _ (by decide)
  rw [sSeq_ap, pick_turn, thn_nx, sSeq_ap]
  have e1' : sSet 3 _ ⟨[.fz srcD, .fz (.int many), a, .no], some { src with turn := src.turn + 1 }⟩ = _ := e1
  rw [e1', thn_nx, sSeq_ap, e2, thn_nx, sSeq_ap, pick_put y0, thn_nx]
  have h0 : 0 < many := by omega
  exact ⟨y / 16 % many, _, _, by simp [hd16, h0]; rfl, rfl, Int.emod_nonneg _ (by omega), Int.emod_lt_of_pos _ h0⟩
def IsPick (many : Int) (x : FR) : Prop := ∃ (r : Int) (src' : Src), x = .ret (.st (.int r)) (some src') ∧ 0 ≤ r ∧ (r < many ∨ r = 0)
theorem isPick_of {many r : Int} {src' : Src} {x : FR} (h : x = .ret (.st (.int r)) (some src')) (h0 : 0 ≤ r) (h1 : r < many ∨ r = 0) : IsPick many x := ⟨r, src', h, h0, h1⟩
theorem pick_ok {many : Int} (hm : PickOk many) (src : Src) : IsPick many (f__law_pick [srcD, .int many] (some src)) := by
  unfold f__law_pick m__law_pick
  rw [runF_out]
  simp
  refine while_gx (P := fun x => IsPick many (out x)) (fun s => ∃ src, s = ⟨[.fz srcD, .fz (.int many), .no, .no], some src⟩)
    (fun s => match s.am with | some src => src.cells.length | none => 0) (fun s => ∃ src, s = ⟨[.fz srcD, .fz (.int many), .no, .no], some src⟩) ⟨src, rfl⟩ ?_ ?_
  · rintro s ⟨src, rfl⟩
    by_cases h1 : 1 < many
    · by_cases h2 : src.left < 2
      · by_cases h3 : 0 < src.cells.length
        · have e : src.cells[src.cells.length - 1]? = some src.cells[src.cells.length - 1] := by simp
          refine ⟨⟨[.fz srcD, .fz (.int many), .no, .no], some src⟩, .inl ⟨by simp [h1, h3, srcD, show ((src.left : Nat) : Int) < 2 by omega], goes_of (s := ⟨[.fz srcD, .fz (.int many), .no, .no], some { src with cells := src.cells.dropLast, left := src.cells[src.cells.length - 1] }⟩) ?_ ⟨⟨_, rfl⟩, ?_⟩⟩⟩
          · simp [srcD, e]
          · simp; omega
        · exact ⟨⟨[.fz srcD, .fz (.int many), .no, .no], some src⟩, .inr ⟨by simp [h1, h3, srcD, show ((src.left : Nat) : Int) < 2 by omega], src, rfl⟩⟩
      · exact ⟨⟨[.fz srcD, .fz (.int many), .no, .no], some src⟩, .inr ⟨by simp [h1, srcD, show ¬ ((src.left : Nat) : Int) < 2 by omega], src, rfl⟩⟩
    · exact ⟨⟨[.fz srcD, .fz (.int many), .no, .no], some src⟩, .inr ⟨by simp [h1], src, rfl⟩⟩
  · rintro s' ⟨src, rfl⟩
    have hdv := hm.div
    have hpos : 0 < (if many > 1 then many else 1) := hdv.1
    by_cases hc : many < 2 ∨ 1 < src.left
    · have e1 : (decide (many < 2) || decide (1 < (src.left : Int))) = true := by
        rcases hc with h | h
        · simp [h]
        · simp [show (1 : Int) < (src.left : Nat) by omega]
      have h0 : 0 ≤ ((src.left : Nat) : Int) / (if many > 1 then many else 1) := Int.ediv_nonneg (by omega) (by omega)
      refine isPick_of (r := (src.left : Int) % (if many > 1 then many else 1)) (src' := { src with left := (((src.left : Nat) : Int) / (if many > 1 then many else 1)).toNat }) ?_ (Int.emod_nonneg _ (by omega)) ?_
      · rcases hc with h | h
        · simp [srcD, h, hdv, hpos, h0]
        · simp [srcD, show (1 : Int) < (src.left : Nat) by omega, hdv, hpos, h0]
      · have := Int.emod_lt_of_pos (src.left : Int) hpos
        split at this
        · left; rw [if_pos (by assumption)]; exact this
        · right
          rename_i h
          rw [if_neg h] at *
          omega
    · have h1 : ¬ many < 2 := fun h => hc (.inl h)
      have h2 : ¬ (1 : Int) < (src.left : Nat) := fun h => hc (.inr (by omega))
      obtain ⟨r, src', s', e, e2, r0, r1⟩ := pick_tail (src := src) (many := many) (a := .fz (.int (src.left : Nat))) (by omega)
      refine isPick_of (r := r) (src' := src') ?_ r0 (.inl r1)
      show out (sSeq (sSet 2 (eSrcGet "left" (eVar 0))) (sSeq (sIf _ _ sNx) (sSeq _ _)) _) = _
      have f1 : sSet 2 (eSrcGet "left" (eVar 0)) ⟨[.fz srcD, .fz (.int many), .no, .no], some src⟩ = .ok .nx ⟨[.fz srcD, .fz (.int many), .fz (.int (src.left : Nat)), .no], some src⟩ := by simp [srcD]
      have f2 : ∀ m : M Flo, sIf (bOr (tst (eBin dLt (eVar 1) (eC (.int 2)))) (tst (eBin dGt (eVar 2) (eC (.int 1))))) m sNx ⟨[.fz srcD, .fz (.int many), .fz (.int (src.left : Nat)), .no], some src⟩ = .ok .nx ⟨[.fz srcD, .fz (.int many), .fz (.int (src.left : Nat)), .no], some src⟩ := fun m => by simp [h1, h2]
      rw [sSeq_ap, f1, thn_nx, sSeq_ap, f2, thn_nx, e]
      simp [e2]
theorem source_ok {ns : List Int} (hl : ns.length ≤ 63) : ∃ src, f__law_source [scrD (ns.map PyData.int)] none = .ret (.st srcD) (some src) := by
  unfold f__law_source m__law_source
  rw [runF_out]
  simp
  refine for_gx (f := PyData.int) (P := fun x => ∃ src, out x = .ret (.st srcD) (some src)) (fun _ s => ∃ (m : Int) (a : Slot), 0 ≤ m ∧ s = ⟨[.fz (scrD (ns.map PyData.int)), .fz (.int m), a], none⟩) ⟨11, _, by decide, rfl⟩ ?_ ?_
  · rintro p x q s _ ⟨m, a, h0, rfl⟩
    refine ⟨_, by simp; rfl, goes_of (s := ⟨[.fz (scrD (ns.map PyData.int)), .fz (.int ((m * 69069 + x * 31 + 5) % 2147483629)), .fz (.int x)], none⟩) ?_ ⟨_, _, Int.emod_nonneg _ (by decide), rfl⟩⟩
    have m1 : MulOk m 69069 := mulOk_right (by decide)
    have m2 : MulOk x 31 := mulOk_right (by decide)
    simp [m1, m2]
  · rintro s' ⟨m, a, h0, rfl⟩
    simp [scrD]
    have hz := size_big
    rw [compL_all (f := PyData.int) (g := fun x => PyData.int (if x < 0 then -x else x)) ns (fun x hx => ⟨_, by simp; rfl, ⟨.st (.int (if x < 0 then -x else x)), by simp, rfl⟩, by simp⟩) (by omega)]
    simp [srcRetV, h0]
    have e : nats? (ns.map fun x => PyData.int (if x < 0 then -x else x)).reverse = some ((ns.map fun x => (if x < 0 then -x else x).toNat).reverse) := by
      rw [← List.map_reverse, ← List.map_reverse]
      induction ns.reverse with
      | nil => rfl
      | cons y l ih =>
        rw [List.map_cons, List.map_cons]
        show (if 0 ≤ (if y < 0 then -y else y) then (nats? (l.map fun x => PyData.int (if x < 0 then -x else x))).map _ else none) = _
        rw [if_pos (by split <;> omega), ih]
        rfl
    rw [e]
    exact ⟨_, rfl⟩
theorem of_ok {xs : List Dt} (hn : xs ≠ []) (hl : xs.length < 1000000) (src : Src) : ∃ x ∈ xs, ∃ src', f__law_of [srcD, .list xs] (some src) = .ret (.st x) (some src') := by
  have h0 : 0 < xs.length := List.length_pos_iff.mpr hn
  obtain ⟨r, src', e, r0, r1⟩ := pick_ok (many := (xs.length : Nat)) (.inl (by omega)) src
  have hr : r.toNat < xs.length := by omega
  refine ⟨xs[r.toNat], List.getElem_mem _, src', ?_⟩
  unfold f__law_of m__law_of
  rw [runF_out]
  have e2 : atI xs r = some xs[r.toNat] := by
    have := atI_nat (l := xs) (k := r.toNat)
    rw [show ((r.toNat : Nat) : Int) = r by omega] at this
    rw [this]
    simp [hr]
  simp [e, e2]
theorem ofT_ok {xs : List Dt} (hn : xs ≠ []) (hl : xs.length < 1000000) (src : Src) : ∃ x ∈ xs, ∃ src', f__law_of [srcD, .tuple xs] (some src) = .ret (.st x) (some src') := by
  have h0 : 0 < xs.length := List.length_pos_iff.mpr hn
  obtain ⟨r, src', e, r0, r1⟩ := pick_ok (many := (xs.length : Nat)) (.inl (by omega)) src
  have hr : r.toNat < xs.length := by omega
  refine ⟨xs[r.toNat], List.getElem_mem _, src', ?_⟩
  unfold f__law_of m__law_of
  rw [runF_out]
  have e2 : atI xs r = some xs[r.toNat] := by
    have := atI_nat (l := xs) (k := r.toNat)
    rw [show ((r.toNat : Nat) : Int) = r by omega] at this
    rw [this]
    simp [hr]
  simp [e, e2]
end Rf

namespace Rf
open PySem PySem.Spec PyProof.Rows L2

mutual
def plain : Dt → Bool
  | .none => true
  | .bool _ => true
  | .int i => decide (i.natAbs.log2 < 1920)
  | .str _ => false
  | .list xs => plains xs
  | .tuple xs => plains xs
  | .dict _ => false
def plains : List Dt → Bool
  | [] => true
  | x :: xs => plain x && plains xs
end
mutual
def nodes : Dt → Nat
  | .none => 1
  | .bool _ => 1
  | .int _ => 1
  | .str _ => 1
  | .list xs => 1 + nodesL xs
  | .tuple xs => 1 + nodesL xs
  | .dict _ => 1
def nodesL : List Dt → Nat
  | [] => 0
  | x :: xs => nodes x + nodesL xs
end
mutual
theorem plain_show : ∀ {d : Dt}, plain d = true → d.showable = true ∧ d.hasDict = false
  | .none, _ => by simp [PyData.showable, PyData.hasDict]
  | .bool _, _ => by simp [PyData.showable, PyData.hasDict]
  | .int i, h => by
    simp only [plain] at h
    simp only [PyData.showable, PyData.hasDict]
    exact ⟨h, trivial⟩
  | .str _, h => by simp [plain] at h
  | .list xs, h => by
    simp only [plain] at h
    simp only [PyData.showable, PyData.hasDict]
    exact plains_show h
  | .tuple xs, h => by
    simp only [plain] at h
    simp only [PyData.showable, PyData.hasDict]
    exact plains_show h
  | .dict _, h => by simp [plain] at h
theorem plains_show : ∀ {ds : List Dt}, plains ds = true → PyData.showableAll ds = true ∧ PyData.hasDictAll ds = false
  | [], _ => by simp [PyData.showableAll, PyData.hasDictAll]
  | x :: xs, h => by
    simp only [plains, Bool.and_eq_true] at h
    obtain ⟨a, b⟩ := plain_show h.1
    obtain ⟨c, d⟩ := plains_show h.2
    simp [PyData.showableAll, PyData.hasDictAll, a, b, c, d]
end
mutual
theorem shown_size : ∀ {d : Dt}, plain d = true → d.shown.length + 2 ≤ 1930 * nodes d
  | .none, _ => by
    have e : (PyData.shown .none).length = 4 := rfl
    rw [e]; simp [nodes]
  | .bool b, _ => by
    have e : (PyData.shown (.bool b)).length ≤ 5 := by cases b <;> decide
    simp only [nodes]; omega
  | .int i, h => by
    simp only [plain, decide_eq_true_eq] at h
    have e : (Str.ofString (toString i)).length ≤ 1921 := int_text_len_1921 h
    have e2 : (PyData.shown (.int i)).length = (Str.ofString (toString i)).length := rfl
    simp only [nodes]; omega
  | .str _, h => by simp [plain] at h
  | .list xs, h => by
    simp only [plain] at h
    have h1 := shownL_size h
    have h2 := listText_len_le (PyData.shownAll xs)
    have h3 := PyData.shownAll_length xs
    have e : (PyData.shown (.list xs)).length = (listText (PyData.shownAll xs)).length := by rw [PyData.shown]
    simp only [nodes]; omega
  | .tuple xs, h => by
    simp only [plain] at h
    have h1 := shownL_size h
    have h2 := tupleText_len_le (PyData.shownAll xs)
    have h3 := PyData.shownAll_length xs
    have e : (PyData.shown (.tuple xs)).length = (tupleText (PyData.shownAll xs)).length := by rw [PyData.shown]
    simp only [nodes]; omega
  | .dict _, h => by simp [plain] at h
theorem shownL_size : ∀ {ds : List Dt}, plains ds = true → ((PyData.shownAll ds).map (·.length)).sum + 2 * ds.length ≤ 1930 * nodesL ds
  | [], _ => by simp [PyData.shownAll, nodesL]
  | x :: xs, h => by
    simp only [plains, Bool.and_eq_true] at h
    have h1 := shown_size h.1
    have h2 := shownL_size h.2
    simp only [PyData.shownAll, List.map_cons, List.sum_cons, List.length_cons, nodesL]
    omega
end
theorem repr_ok {d : Dt} (hd : isDisplay d = true) (hp : plain d = true) (hdep : d.depth ≤ 64) (hn : nodes d ≤ 8000) : dRepr [d] = some (.st (.str d.shown)) := by
  have h1 := plain_show hp
  have h2 := shown_size hp
  have hz : d.shown.length ≤ sizeLine := by rw [sizeLine_eq]; omega
  cases d with
  | list xs => simp [dRepr, hd, h1, hdep, hz]
  | tuple xs => simp [dRepr, hd, h1, hdep, hz]
  | _ => cases hd
theorem plain_int {i : Int} (h : i.natAbs < 10 ^ 250) : plain (.int i) = true := by
  simp only [plain, decide_eq_true_eq]
  by_cases h0 : i.natAbs = 0
  · rw [h0]; decide
  · rw [Nat.log2_lt h0]
    exact Nat.lt_of_lt_of_le h (by decide)
end Rf

namespace Rf
open PySem PySem.Spec PyProof.Rows L2
theorem ascii_inj : ∀ (a b : List Char), a.map Char.toNat = b.map Char.toNat → a = b
  | [], [], _ => rfl
  | [], _ :: _, h => by simp at h
  | _ :: _, [], h => by simp at h
  | x :: a, y :: b, h => by
    simp only [List.map_cons, List.cons.injEq] at h
    rw [Char.toNat_inj.mp h.1, ascii_inj a b h.2]
def ct (d : Dt) : List Nat := TL.tl d.shown
theorem ct_int (i : Int) : ct (.int i) = (toString i).toList.map Char.toNat := by
  show TL.tl (Str.ofString (toString i)) = _
  rw [TL.tl_ofString]
theorem ct_nat (n : Nat) : ct (.int (n : Int)) = TL.numL n := TL.tl_num n
theorem ct_neg (n : Nat) : ct (.int (Int.negSucc n)) = 45 :: TL.numL (n + 1) := by
  rw [← ct_nat (n + 1), ct_int, ct_int]
  have e : (toString (Int.negSucc n)).toList = '-' :: (Nat.repr (n + 1)).toList := by
    show (Int.repr (Int.negSucc n)).toList = _
    simp [Int.repr]
  rw [e]
  rfl
theorem num_head (n : Nat) : ∀ l, TL.numL n ≠ 45 :: l := fun l h => by
  rw [← ct_nat, ct_int] at h
  have h1 : ((Nat.repr n).toList.map Char.toNat) = 45 :: l := h
  have h2 : 45 ∈ (Nat.repr n).toList.map Char.toNat := by rw [h1]; exact List.mem_cons_self
  obtain ⟨c, hc, e⟩ := List.mem_map.mp h2
  have h3 := Nat.isDigit_of_mem_toDigits (by decide) (by decide) (show c ∈ Nat.toDigits 10 n by simpa [Nat.repr] using hc)
  unfold Char.isDigit at h3
  simp only [Bool.and_eq_true, decide_eq_true_eq] at h3
  have h4 : 48 ≤ c.toNat := h3.1
  omega
theorem ct_int_inj : ∀ {i j : Int}, ct (.int i) = ct (.int j) → i = j
  | .ofNat m, .ofNat n, h => by
    have h' : TL.numL m = TL.numL n := by rw [← ct_nat, ← ct_nat]; exact h
    rw [TL.numL_inj h']
  | .ofNat m, .negSucc n, h => by
    have h' : TL.numL m = 45 :: TL.numL (n + 1) := by rw [← ct_nat, ← ct_neg]; exact h
    exact absurd h' (num_head m _)
  | .negSucc m, .ofNat n, h => by
    have h' : TL.numL n = 45 :: TL.numL (m + 1) := by rw [← ct_nat, ← ct_neg]; exact h.symm
    exact absurd h' (num_head n _)
  | .negSucc m, .negSucc n, h => by
    rw [ct_neg, ct_neg] at h
    have := TL.numL_inj (List.cons.inj h).2
    rw [show m = n by omega]
def fig (c : Nat) : Bool := decide (c = 45) || (decide (48 ≤ c) && decide (c ≤ 57))
def stp (c : Nat) : Bool := decide (c = 44) || decide (c = 41) || decide (c = 93)
theorem fig_digits (n : Nat) : ∀ c ∈ (Nat.repr n).toList, fig c.toNat = true := fun c hc => by
  have h := Nat.isDigit_of_mem_toDigits (by decide) (by decide) (show c ∈ Nat.toDigits 10 n by simpa [Nat.repr] using hc)
  unfold Char.isDigit at h
  simp only [Bool.and_eq_true, decide_eq_true_eq] at h
  have h1 : 48 ≤ c.toNat := h.1
  have h2 : c.toNat ≤ 57 := h.2
  simp [fig, h1, h2]
theorem ct_int_fig (i : Int) : ∀ c ∈ ct (.int i), fig c = true := by
  intro c hc
  rw [ct_int] at hc
  obtain ⟨ch, hch, rfl⟩ := List.mem_map.mp hc
  cases i with
  | ofNat n => exact fig_digits n ch hch
  | negSucc n =>
    have e : (toString (Int.negSucc n)).toList = '-' :: (Nat.repr (n + 1)).toList := by
      show (Int.repr (Int.negSucc n)).toList = _
      simp [Int.repr]
    rw [e] at hch
    rcases List.mem_cons.mp hch with rfl | h
    · rfl
    · exact fig_digits _ _ h
theorem ct_int_ne (i : Int) : ct (.int i) ≠ [] := by
  rw [ct_int]
  intro h
  have h1 : (toString i).toList = [] := by simpa using h
  cases i with
  | ofNat n =>
    have : (Nat.repr n).toList = [] := h1
    simp [Nat.repr] at this
  | negSucc n =>
    have e : (toString (Int.negSucc n)).toList = '-' :: (Nat.repr (n + 1)).toList := by
      show (Int.repr (Int.negSucc n)).toList = _
      simp [Int.repr]
    rw [e] at h1
    simp at h1
inductive Kn where
  | lst
  | one
  | more
def Kn.nxt : Kn → Kn
  | .lst => .lst
  | _ => .more
def Kn.shut : Kn → List Nat
  | .lst => [93]
  | .one => [44, 41]
  | .more => [41]
def tailT : Kn → List Dt → List Nat
  | k, [] => k.shut
  | k, x :: xs => 44 :: 32 :: (ct x ++ tailT k.nxt xs)
theorem tl_from : ∀ (ts : List Dt) (k : Nat) (acc : Str), TL.tl (textFrom (k + 1) acc (PyData.shownAll ts) ++ ("]" : String)) = TL.tl acc ++ tailT .lst ts
  | [], k, acc => by
    show TL.tl (acc ++ (("]" : String) : Str)) = _
    rw [TL.tl_append, TL.tl_ofString]
    rfl
  | t :: ts, k, acc => by
    have ih := tl_from ts (k + 1) (acc ++ (", " : String) ++ t.shown)
    rw [TL.tl_append (acc ++ _), TL.tl_append acc, TL.tl_ofString] at ih
    show TL.tl (textFrom (k + 1 + 1) (acc ++ (if k + 1 > 0 then ", " else "" : String) ++ t.shown) (PyData.shownAll ts) ++ ("]" : String)) = _
    rw [if_pos (by omega), ih, List.append_assoc, List.append_assoc]
    rfl
theorem ct_list_nil : ct (.list []) = [91, 93] := by
  show TL.tl (listText (PyData.shownAll [])) = _
  decide +kernel
theorem ct_list (x : Dt) (xs : List Dt) : ct (.list (x :: xs)) = 91 :: (ct x ++ tailT .lst xs) := by
  have h := tl_from xs 0 ((("[" : String) : Str) ++ ("" : String) ++ x.shown)
  rw [TL.tl_append ((_ : Str) ++ _) x.shown, TL.tl_append (Str.ofString "["), TL.tl_ofString, TL.tl_ofString] at h
  have e : ct (.list (x :: xs)) = TL.tl (textFrom (0 + 1) ((("[" : String) : Str) ++ ("" : String) ++ x.shown) (PyData.shownAll xs) ++ ("]" : String)) := by
    show TL.tl (PyData.shown (.list (x :: xs))) = _
    rw [PyData.shown]
    rfl
  rw [e, h]
  rfl
theorem join_tail : ∀ (x : Dt) (xs : List Dt), TL.joinL [44, 32] ((PyData.shownAll (x :: xs)).map TL.tl) ++ [41] = ct x ++ tailT .more xs
  | x, [] => rfl
  | x, y :: xs => by
    have ih := join_tail y xs
    show (TL.tl x.shown ++ ([44, 32] ++ TL.joinL [44, 32] ((PyData.shownAll (y :: xs)).map TL.tl))) ++ [41] = _
    rw [List.append_assoc, List.append_assoc, ih]
    rfl
theorem tl_shut (b : Bool) : TL.tl (((if b then ",)" else ")" : String)) : Str) = if b then [44, 41] else [41] := by cases b <;> decide +kernel
theorem ct_tup_nil : ct (.tuple []) = [40, 41] := by
  show TL.tl (tupleText (PyData.shownAll [])) = _
  decide +kernel
theorem ct_tup (x : Dt) (xs : List Dt) : ct (.tuple (x :: xs)) = 40 :: (ct x ++ tailT .one xs) := by
  have e : ct (.tuple (x :: xs)) = TL.tl (tupleText (PyData.shownAll (x :: xs))) := by
    show TL.tl (PyData.shown (.tuple (x :: xs))) = _
    rw [PyData.shown]
  rw [e]
  unfold tupleText
  rw [TL.tl_append, TL.tl_append, TL.tl_join, TL.tl_ofString, TL.tl_ofString]
  cases xs with
  | nil => rfl
  | cons y xs =>
    have h := join_tail x (y :: xs)
    have e2 : ((PyData.shownAll (x :: y :: xs)).length == 1) = false := by simp [PyData.shownAll]
    rw [e2]
    have e3 : ((", " : String).toList.map Char.toNat) = [44, 32] := by decide +kernel
    rw [e3, List.append_assoc]
    have e4 : TL.tl (Str.ofString (if false = true then ",)" else ")" : String)) = [41] := by decide +kernel
    rw [e4, h]
    rfl
theorem ct_head : ∀ {d : Dt}, plain d = true → ∃ c l, ct d = c :: l ∧ stp c = false ∧ (match d with
    | .none => c = 78
    | .bool b => c = (if b then 84 else 70)
    | .int _ => fig c = true
    | .list _ => c = 91
    | .tuple _ => c = 40
    | _ => False)
  | .none, _ => ⟨78, [111, 110, 101], by decide +kernel, rfl, rfl⟩
  | .bool true, _ => ⟨84, [114, 117, 101], by decide +kernel, rfl, rfl⟩
  | .bool false, _ => ⟨70, [97, 108, 115, 101], by decide +kernel, rfl, rfl⟩
  | .int i, _ => by
    cases h : ct (.int i) with
    | nil => exact absurd h (ct_int_ne i)
    | cons c l =>
      have := ct_int_fig i c (by rw [h]; exact List.mem_cons_self)
      refine ⟨c, l, rfl, ?_, this⟩
      simp only [fig, Bool.or_eq_true, Bool.and_eq_true, decide_eq_true_eq] at this
      simp only [stp, Bool.or_eq_false_iff, decide_eq_false_iff_not]
      omega
  | .list [], _ => ⟨91, _, ct_list_nil, rfl, rfl⟩
  | .list (x :: xs), _ => ⟨91, _, ct_list x xs, rfl, rfl⟩
  | .tuple [], _ => ⟨40, _, ct_tup_nil, rfl, rfl⟩
  | .tuple (x :: xs), _ => ⟨40, _, ct_tup x xs, rfl, rfl⟩
  | .str _, h => by simp [plain] at h
  | .dict _, h => by simp [plain] at h
def ends (r : List Nat) : Prop := ∀ c l, r = c :: l → stp c = true
theorem tail_ends (k : Kn) : ∀ (xs : List Dt) (r : List Nat), ends (tailT k xs ++ r)
  | [], r => fun c l h => by cases k <;> (simp [tailT, Kn.shut] at h; rw [← h.1]; rfl)
  | x :: xs, r => fun c l h => by simp [tailT] at h; rw [← h.1]; rfl
theorem figs_end : ∀ {a b r r' : List Nat}, (∀ c ∈ a, fig c = true) → (∀ c ∈ b, fig c = true) → ends r → ends r' → a ++ r = b ++ r' → a = b ∧ r = r'
  | [], [], _, _, _, _, _, _, e => ⟨rfl, e⟩
  | [], y :: b, r, r', _, hb, he, _, e => by
    have h1 := he y (b ++ r') e
    have h2 := hb y List.mem_cons_self
    simp only [fig, Bool.or_eq_true, Bool.and_eq_true, decide_eq_true_eq] at h2
    simp only [stp, Bool.or_eq_true, decide_eq_true_eq] at h1
    omega
  | y :: a, [], r, r', ha, _, _, he, e => by
    have h1 := he y (a ++ r) e.symm
    have h2 := ha y List.mem_cons_self
    simp only [fig, Bool.or_eq_true, Bool.and_eq_true, decide_eq_true_eq] at h2
    simp only [stp, Bool.or_eq_true, decide_eq_true_eq] at h1
    omega
  | x :: a, y :: b, r, r', ha, hb, h1, h2, e => by
    simp only [List.cons_append, List.cons.injEq] at e
    obtain ⟨h3, h4⟩ := figs_end (fun c hc => ha c (List.mem_cons_of_mem _ hc)) (fun c hc => hb c (List.mem_cons_of_mem _ hc)) h1 h2 e.2
    exact ⟨by rw [e.1, h3], h4⟩
mutual
theorem ct_inj : ∀ {d : Dt}, plain d = true → ∀ {d' : Dt} {r r' : List Nat}, plain d' = true → ends r → ends r' → ct d ++ r = ct d' ++ r' → d = d' ∧ r = r'
  | .none, h, d', r, r', h', hr, hr', e => by
    obtain ⟨c, l, e1, -, q1⟩ := ct_head h
    obtain ⟨c', l', e2, -, q2⟩ := ct_head h'
    rw [e1, e2] at e
    simp only [List.cons_append, List.cons.injEq] at e
    obtain ⟨rfl, e⟩ := e
    cases d' with
    | none => rw [e1] at e2; simp at e2; subst e2; exact ⟨rfl, List.append_cancel_left e⟩
    | bool b => cases b <;> simp at q1 q2 <;> omega
    | int i => simp at q1 q2; subst q1; simp [fig] at q2
    | _ => simp at q1 q2 <;> omega
  | .bool b, h, d', r, r', h', hr, hr', e => by
    obtain ⟨c, l, e1, -, q1⟩ := ct_head h
    obtain ⟨c', l', e2, -, q2⟩ := ct_head h'
    have e0 := e
    rw [e1, e2] at e
    simp only [List.cons_append, List.cons.injEq] at e
    obtain ⟨rfl, e⟩ := e
    cases d' with
    | none => cases b <;> simp at q1 q2 <;> omega
    | bool b' =>
      have hb : b = b' := by cases b <;> cases b' <;> simp at q1 q2 <;> first | rfl | omega
      subst hb
      exact ⟨rfl, List.append_cancel_left e0⟩
    | int i => cases b <;> (simp at q1 q2; subst q1; simp [fig] at q2)
    | _ => cases b <;> simp at q1 q2 <;> omega
  | .int i, h, d', r, r', h', hr, hr', e => by
    obtain ⟨c, l, e1, -, q1⟩ := ct_head h
    obtain ⟨c', l', e2, -, q2⟩ := ct_head h'
    have e0 := e
    rw [e1, e2] at e
    simp only [List.cons_append, List.cons.injEq] at e
    obtain ⟨rfl, e⟩ := e
    cases d' with
    | none => simp at q1 q2; subst q2; simp [fig] at q1
    | bool b => cases b <;> (simp at q1 q2; subst q2; simp [fig] at q1)
    | int j =>
      obtain ⟨h3, h4⟩ := figs_end (ct_int_fig i) (ct_int_fig j) hr hr' e0
      exact ⟨by rw [ct_int_inj h3], h4⟩
    | str _ => simp at q2
    | dict _ => simp at q2
    | _ => simp at q1 q2; subst q2; simp [fig] at q1
  | .list xs, h, d', r, r', h', hr, hr', e => by
    obtain ⟨c, l, e1, -, q1⟩ := ct_head h
    obtain ⟨c', l', e2, -, q2⟩ := ct_head h'
    have e0 := e
    rw [e1, e2] at e
    simp only [List.cons_append, List.cons.injEq] at e
    obtain ⟨rfl, e⟩ := e
    cases d' with
    | none => simp at q1 q2; omega
    | bool b => cases b <;> simp at q1 q2 <;> omega
    | int i => simp at q1 q2; subst q1; simp [fig] at q2
    | tuple _ => simp at q1 q2; omega
    | str _ => simp at q2
    | dict _ => simp at q2
    | list ys =>
      simp only [plain] at h h'
      match xs, ys with
      | [], [] => exact ⟨rfl, List.append_cancel_left e0⟩
      | [], y :: ys =>
        rw [ct_list_nil, ct_list] at e0
        obtain ⟨c2, l2, e3, q3, -⟩ := ct_head (show plain y = true by simp only [plains, Bool.and_eq_true] at h'; exact h'.1)
        rw [e3] at e0
        simp at e0
        rw [← e0.1] at q3
        cases q3
      | x :: xs, [] =>
        rw [ct_list_nil, ct_list] at e0
        obtain ⟨c2, l2, e3, q3, -⟩ := ct_head (show plain x = true by simp only [plains, Bool.and_eq_true] at h; exact h.1)
        rw [e3] at e0
        simp at e0
        rw [e0.1] at q3
        cases q3
      | x :: xs, y :: ys =>
        rw [ct_list, ct_list] at e0
        simp only [List.cons_append, List.cons.injEq, true_and, List.append_assoc] at e0
        simp only [plains, Bool.and_eq_true] at h h'
        obtain ⟨rfl, e3⟩ := ct_inj h.1 h'.1 (tail_ends _ _ _) (tail_ends _ _ _) e0
        obtain ⟨rfl, e4⟩ := tail_inj h.2 h'.2 e3
        exact ⟨rfl, e4⟩
  | .tuple xs, h, d', r, r', h', hr, hr', e => by
    obtain ⟨c, l, e1, -, q1⟩ := ct_head h
    obtain ⟨c', l', e2, -, q2⟩ := ct_head h'
    have e0 := e
    rw [e1, e2] at e
    simp only [List.cons_append, List.cons.injEq] at e
    obtain ⟨rfl, e⟩ := e
    cases d' with
    | none => simp at q1 q2; omega
    | bool b => cases b <;> simp at q1 q2 <;> omega
    | int i => simp at q1 q2; subst q1; simp [fig] at q2
    | list _ => simp at q1 q2; omega
    | str _ => simp at q2
    | dict _ => simp at q2
    | tuple ys =>
      simp only [plain] at h h'
      match xs, ys with
      | [], [] => exact ⟨rfl, List.append_cancel_left e0⟩
      | [], y :: ys =>
        rw [ct_tup_nil, ct_tup] at e0
        obtain ⟨c2, l2, e3, q3, -⟩ := ct_head (show plain y = true by simp only [plains, Bool.and_eq_true] at h'; exact h'.1)
        rw [e3] at e0
        simp at e0
        rw [← e0.1] at q3
        cases q3
      | x :: xs, [] =>
        rw [ct_tup_nil, ct_tup] at e0
        obtain ⟨c2, l2, e3, q3, -⟩ := ct_head (show plain x = true by simp only [plains, Bool.and_eq_true] at h; exact h.1)
        rw [e3] at e0
        simp at e0
        rw [e0.1] at q3
        cases q3
      | x :: xs, y :: ys =>
        rw [ct_tup, ct_tup] at e0
        simp only [List.cons_append, List.cons.injEq, true_and, List.append_assoc] at e0
        simp only [plains, Bool.and_eq_true] at h h'
        obtain ⟨rfl, e3⟩ := ct_inj h.1 h'.1 (tail_ends _ _ _) (tail_ends _ _ _) e0
        obtain ⟨rfl, e4⟩ := tail_inj h.2 h'.2 e3
        exact ⟨rfl, e4⟩
  | .str _, h, _, _, _, _, _, _, _ => by simp [plain] at h
  | .dict _, h, _, _, _, _, _, _, _ => by simp [plain] at h
theorem tail_inj : ∀ {xs : List Dt} {k : Kn}, plains xs = true → ∀ {ys : List Dt} {r r' : List Nat}, plains ys = true → tailT k xs ++ r = tailT k ys ++ r' → xs = ys ∧ r = r'
  | [], k, _, [], r, r', _, e => ⟨rfl, List.append_cancel_left e⟩
  | [], k, _, y :: ys, r, r', _, e => by cases k <;> simp [tailT, Kn.shut] at e
  | x :: xs, k, _, [], r, r', _, e => by cases k <;> simp [tailT, Kn.shut] at e
  | x :: xs, k, h, y :: ys, r, r', h', e => by
    simp only [tailT, List.cons_append, List.cons.injEq, true_and, List.append_assoc] at e
    simp only [plains, Bool.and_eq_true] at h h'
    obtain ⟨rfl, e3⟩ := ct_inj h.1 h'.1 (tail_ends _ _ _) (tail_ends _ _ _) e
    obtain ⟨rfl, e4⟩ := tail_inj h.2 h'.2 e3
    exact ⟨rfl, e4⟩
end
theorem shown_inj {d d' : Dt} (h : plain d = true) (h' : plain d' = true) : d.shown = d'.shown ↔ d = d' := by
  constructor
  · intro e
    have : ct d ++ [] = ct d' ++ [] := by unfold ct; rw [e]
    exact (ct_inj h h' (fun c l h => by cases h) (fun c l h => by cases h) this).1
  · rintro rfl; rfl
end Rf

namespace Rf
open PySem PySem.Spec PyProof.Rows L2
@[simp] theorem size_le {n : Nat} (h : n ≤ 1000000) : n ≤ sizeLine := Nat.le_trans h size_big
@[simp] theorem size_lt {n : Nat} (h : n < 1000000) : n < sizeLine := Nat.lt_of_lt_of_le h size_big
@[simp] theorem noRef_ru {m : Int} {F : List Pr} : noRef (ruD m F) = true := noRef_ruD m F
@[simp] theorem ix_ru0 {m : Int} {F : List Pr} : dIxD (ruD m F) (.int 0) = some (.st (.int m)) := by
  unfold ruD; rw [dIxD_t, atI_zero]; rfl
@[simp] theorem ix_ru1 {m : Int} {F : List Pr} : dIxD (ruD m F) (.int 1) = some (.st (.tuple (F.map pT))) := by
  unfold ruD; rw [dIxD_t, atI_one]; rfl
theorem for_ge {t : Tg} {b : M Flo} {α : Type} {f : α → Dt} {xs : List α} {s : S} {Q : S → Prop} (I : List α → S → Prop) (h : I [] s)
    (k : ∀ p x q s, xs = p ++ x :: q → I p s → ∃ s1, stT t (f x) s = some s1 ∧ Goes (b s1) (I (p ++ [x]))) (q : ∀ s', I xs s' → Q s') : Goes (forL t b (xs.map f) s) Q := by
  obtain ⟨s', e, h'⟩ := for_inv I h k
  exact goes_of e (q s' h')
theorem while_ge {c : M Bool} {b : M Flo} {s : S} {P : S → Prop} (I : S → Prop) (μ : S → Nat) (Q : S → Prop) (h : I s)
    (k : ∀ s, I s → ∃ s1, (c s = .ok true s1 ∧ Goes (b s1) fun s2 => I s2 ∧ μ s2 < μ s) ∨ (c s = .ok false s1 ∧ Q s1)) (q : ∀ s', Q s' → P s') : Goes (sWhile c b s) P := by
  have := while_gx (P := fun r => Goes r P) (g := fun f s => .ok f s) I μ Q h k (fun s' hs => by simp; exact q s' hs)
  have e : ∀ r : R Flo, r.bind (fun f s => R.ok f s) = r := fun r => by cases r <;> rfl
  rwa [e] at this
section
variable {s : S} {xs : List Dt} {a b : Bool}
@[simp] theorem mPart_none : mPart none s = .ok (none, s) s := (rfl)
@[simp] theorem mPart_some {m : M Val} : mPart (some m) s = (match m s with
  | .ok v s1 => (match peek s1 v with
    | some (.int i) => .ok (some i, s1) s1
    | _ => .bad)
  | .ex e am => .ex e am
  | .bad => .bad) := (rfl)
@[simp] theorem dCut_l {lo hi : Option Int} : dCut lo hi (.list xs) = some (.ow (.list (cutD xs lo hi))) := (rfl)
@[simp] theorem dCut_t {lo hi : Option Int} : dCut lo hi (.tuple xs) = some (.st (.tuple (cutD xs lo hi))) := (rfl)
theorem cut_hi {k : Nat} : cutD xs none (some (k : Int)) = xs.take k := by
  unfold cutD
  rw [HT.sIx_none, HT.sIx_nat]
  simp only [List.drop_zero, Nat.sub_zero]
  rcases Nat.le_total k xs.length with h | h
  · rw [Nat.min_eq_left h]
  · rw [Nat.min_eq_right h, List.take_of_length_le h, List.take_of_length_le (Nat.le_refl _)]
theorem cut_lo {k : Nat} : cutD xs (some (k : Int)) none = xs.drop k := by
  unfold cutD
  rw [HT.sIx_none, HT.sIx_nat]
  rcases Nat.le_total k xs.length with h | h
  · rw [Nat.min_eq_left h, List.take_of_length_le (by simp)]
  · rw [Nat.min_eq_right h, List.drop_eq_nil_of_le h, List.drop_eq_nil_of_le (Nat.le_refl _)]; simp
@[simp] theorem dEq_b : dEq (.bool a) (.bool b) = some (.st (.bool (a == b))) := by
  simp only [dEq]
  rw [if_pos ⟨shaped_bool, shaped_bool⟩]
  cases a <;> cases b <;> simp [PyData.eqv]
@[simp] theorem dNe_b : dNe (.bool a) (.bool b) = some (.st (.bool (a != b))) := by
  simp only [dNe]
  rw [if_pos ⟨shaped_bool, shaped_bool⟩]
  cases a <;> cases b <;> simp [PyData.eqv]
theorem inD_bools (a : Bool) (l : List Bool) : inD (.bool a) (l.map PyData.bool) = decide (a ∈ l) := by
  unfold inD
  induction l with
  | nil => simp
  | cons b l ih =>
    rw [List.map_cons, List.any_cons, ih]
    cases a <;> cases b <;> simp [PyData.eqv]
theorem flat_bools (l : List Bool) : (l.map PyData.bool).all flatD = true := by
  rw [List.all_eq_true]
  intro x hx
  obtain ⟨i, _, rfl⟩ := List.mem_map.mp hx
  rfl
theorem dIn_bools (a : Bool) (l : List Bool) : dIn (.bool a) (.list (l.map PyData.bool)) = some (.st (.bool (decide (a ∈ l)))) := by
  unfold dIn
  simp only [dInB]
  rw [if_pos (by rw [flat_bools]; rfl), inD_bools]
  rfl
theorem dNotIn_bools (a : Bool) (l : List Bool) : dNotIn (.bool a) (.list (l.map PyData.bool)) = some (.st (.bool (!decide (a ∈ l)))) := by
  unfold dNotIn
  simp only [dInB]
  rw [if_pos (by rw [flat_bools]; rfl), inD_bools]
  rfl
end
theorem zip_maps {α : Type} {f g : α → Dt} : ∀ l : List α, zipD (l.map f) (l.map g) = l.map fun y => PyData.tuple [f y, g y]
  | [] => rfl
  | y :: l => by
    have := zip_maps (f := f) (g := g) l
    unfold zipD at this ⊢
    simp [this]
structure Fine (F : List Pr) : Prop where
  few : F.length ≤ 450
  low : ∀ x ∈ F, x.1.natAbs < 10 ^ 200 ∧ x.2.natAbs < 10 ^ 200
theorem plain_big {i : Int} (h : i.natAbs < 10 ^ 200) : plain (.int i) = true := plain_int (Nat.lt_of_lt_of_le h (Nat.pow_le_pow_right (by decide) (by decide)))
theorem plains_of : ∀ {xs : List Dt}, (∀ x ∈ xs, plain x = true) → plains xs = true
  | [], _ => by simp [plains]
  | x :: xs, h => by
    simp only [plains, Bool.and_eq_true]
    exact ⟨h x List.mem_cons_self, plains_of fun y hy => h y (List.mem_cons_of_mem _ hy)⟩
theorem plain_pT {x : Pr} (h : x.1.natAbs < 10 ^ 200 ∧ x.2.natAbs < 10 ^ 200) : plain (pT x) = true := by
  simp only [pT, plain, plains, Bool.and_eq_true]
  exact ⟨plain_big h.1, plain_big h.2, trivial⟩
theorem plain_ru {m : Int} {F : List Pr} (hm : m.natAbs < 10 ^ 200) (hF : Fine F) : plain (ruD m F) = true := by
  have h1 : plains (F.map pT) = true := plains_of fun x hx => by
    obtain ⟨y, hy, rfl⟩ := List.mem_map.mp hx
    exact plain_pT (hF.low y hy)
  have h2 := plain_big hm
  simp only [ruD, plain, plains, Bool.and_eq_true] at h2 ⊢
  exact ⟨h2, h1, trivial⟩
theorem depths_of {n : Nat} : ∀ {xs : List Dt}, (∀ x ∈ xs, x.depth ≤ n) → PyData.depthAll xs ≤ n
  | [], _ => by simp [PyData.depthAll]
  | x :: xs, h => by
    have h1 := h x List.mem_cons_self
    have h2 := depths_of fun y hy => h y (List.mem_cons_of_mem _ hy)
    simp only [PyData.depthAll]
    omega
theorem depth_pT (x : Pr) : (pT x).depth ≤ 2 := by simp [pT, PyData.depth, PyData.depthAll]
theorem depth_ru (m : Int) (F : List Pr) : (ruD m F).depth ≤ 4 := by
  have h1 : PyData.depthAll (F.map pT) ≤ 2 := depths_of fun x hx => by
    obtain ⟨y, hy, rfl⟩ := List.mem_map.mp hx
    exact depth_pT y
  simp only [ruD, PyData.depth, PyData.depthAll]
  omega
theorem nodes_of {n : Nat} : ∀ {xs : List Dt}, (∀ x ∈ xs, nodes x ≤ n) → nodesL xs ≤ n * xs.length
  | [], _ => by simp [nodesL]
  | x :: xs, h => by
    have h1 := h x List.mem_cons_self
    have h2 := nodes_of fun y hy => h y (List.mem_cons_of_mem _ hy)
    simp only [nodesL, List.length_cons, Nat.mul_succ]
    omega
theorem nodes_ru {m : Int} {F : List Pr} (hF : Fine F) : nodes (ruD m F) ≤ 1400 := by
  have h1 : nodesL (F.map pT) ≤ 3 * (F.map pT).length := nodes_of fun x hx => by
    obtain ⟨y, hy, rfl⟩ := List.mem_map.mp hx
    simp [pT, nodes, nodesL]
  have h2 := hF.few
  simp only [List.length_map] at h1
  simp only [ruD, nodes, nodesL]
  omega
theorem repr_ru {m : Int} {F : List Pr} (hm : m.natAbs < 10 ^ 200) (hF : Fine F) : dRepr [ruD m F] = some (.st (.str (ruD m F).shown)) :=
  repr_ok rfl (plain_ru hm hF) (Nat.le_trans (depth_ru m F) (by decide)) (Nat.le_trans (nodes_ru hF) (by decide))
structure Wr (d : Dt) : Prop where
  plain : plain d = true
  depth : d.depth ≤ 50
  nodes : nodes d ≤ 1500
theorem Wr.ru {m : Int} {F : List Pr} (hm : m.natAbs < 10 ^ 200) (hF : Fine F) : Wr (ruD m F) := ⟨plain_ru hm hF, Nat.le_trans (depth_ru m F) (by decide), Nat.le_trans (nodes_ru hF) (by decide)⟩
theorem repr_list {xs : List Dt} (h : ∀ x ∈ xs, Wr x) (hl : xs.length ≤ 5) : dRepr [.list xs] = some (.st (.str (PyData.shown (.list xs)))) := by
  have h1 : plains xs = true := plains_of fun x hx => (h x hx).plain
  have h2 : PyData.depthAll xs ≤ 50 := depths_of fun x hx => (h x hx).depth
  have h3 := nodes_of fun x hx => (h x hx).nodes
  refine repr_ok rfl (by simpa [plain] using h1) (by simp [PyData.depth]; omega) (by simp [nodes]; omega)
theorem shown_ru {m m' : Int} {F F' : List Pr} (hm : m.natAbs < 10 ^ 200) (hm' : m'.natAbs < 10 ^ 200) (hF : Fine F) (hF' : Fine F') : (ruD m F).shown = (ruD m' F').shown ↔ m = m' ∧ F = F' := by
  rw [shown_inj (plain_ru hm hF) (plain_ru hm' hF')]
  constructor
  · intro e
    simp [ruD] at e
    refine ⟨e.1, ?_⟩
    have h2 := e.2
    have inj : ∀ x y : Pr, pT x = pT y → x = y := fun x y h => by simp [pT] at h; exact Prod.ext h.1 h.2
    exact List.map_inj_right inj |>.mp h2
  · rintro ⟨rfl, rfl⟩; rfl
end Rf

namespace Rf
open PySem PySem.Spec PyProof.Rows L2
def exGreat (n : Int) : Ex := ⟨"TooGreat", [("number", .int n)]⟩
theorem made_ex {m : Int} {F : List Pr} (h : 400 < spanL F) (am : Option Src) : f_rule_made [ruD m F] am = .ex (exGreat 0) am := by
  unfold f_rule_made m_rule_made
  rw [runF_out]
  simp [span_ok, h, sRaise, exGreat]
theorem sum_at {g : Int → Int} {l : Int} : ∀ {A : List Pr}, (∀ a ∈ A, a.1 ≠ l → g a.1 = 0) → sumA A (fun a => a.2 * g a.1) = cf A l * g l
  | [], _ => by simp [sumA]
  | a :: A, h => by
    have ih := sum_at (A := A) fun b hb => h b (List.mem_cons_of_mem _ hb)
    have e : sumA (a :: A) (fun a => a.2 * g a.1) = a.2 * g a.1 + sumA A (fun a => a.2 * g a.1) := by simp [sumA]
    rw [e, ih, cf_cons]
    by_cases hl : a.1 = l
    · rw [if_pos hl, hl, Int.add_mul]
    · rw [if_neg hl, h a List.mem_cons_self hl]
      simp
structure Ends (q : Int) (G : List Pr) (lo hi : Int) : Prop where
  lo_ : cf G lo % q ≠ 0
  hi_ : cf G hi % q ≠ 0
  out : ∀ p, cf G p % q ≠ 0 → lo ≤ p ∧ p ≤ hi
theorem Ends.congr {q lo hi : Int} {A B : List Pr} (h : Ends q A lo hi) (e : Eqm q A B) : Ends q B lo hi := ⟨by rw [← e]; exact h.lo_, by rw [← e]; exact h.hi_, fun p hp => h.out p (by rw [e]; exact hp)⟩
theorem PrimeI.mul_ne {q a b : Int} (h : PrimeI q) (ha : a % q ≠ 0) (hb : b % q ≠ 0) : a * b % q ≠ 0 := fun e => by
  rcases h.dvd_mul (Int.dvd_of_emod_eq_zero e) with z | z
  · exact ha (Int.emod_eq_zero_of_dvd z)
  · exact hb (Int.emod_eq_zero_of_dvd z)
theorem ends_prod {q a b c d : Int} (hq : PrimeI q) {A B : List Pr} (hA : Ends q A a b) (hB : Ends q B c d) : Ends q (prodL A B) (a + c) (b + d) := by
  have eq1 : Eqm q (prodL (told q A) (told q B)) (prodL A B) := (eqm_told q A).prod (eqm_told q B)
  refine Ends.congr ?_ eq1
  have zA : ∀ p, ¬ (a ≤ p ∧ p ≤ b) → cf (told q A) p = 0 := fun p hp => by
    rw [cf_told]
    apply Classical.byContradiction
    exact fun h => hp (hA.out p h)
  have zB : ∀ p, ¬ (c ≤ p ∧ p ≤ d) → cf (told q B) p = 0 := fun p hp => by
    rw [cf_told]
    apply Classical.byContradiction
    exact fun h => hp (hB.out p h)
  have inA : ∀ x ∈ told q A, a ≤ x.1 ∧ x.1 ≤ b := fun x hx => by
    have := mem_told.mp hx
    exact hA.out x.1 (by rw [← this.1]; exact this.2)
  have key : ∀ l r, (∀ x ∈ told q A, x.1 ≠ l → cf (told q B) (l + r - x.1) = 0) → cf (prodL (told q A) (told q B)) (l + r) = cf (told q A) l * cf (told q B) r := fun l r h => by
    rw [cf_prod]
    have := sum_at (A := told q A) (g := fun k => cf (told q B) (l + r - k)) (l := l) h
    rw [this]
    congr 2
    omega
  refine ⟨?_, ?_, fun p hp => ?_⟩
  · rw [key a c fun x hx hne => zB _ (by have := inA x hx; omega), cf_told, cf_told]
    exact hq.mul_ne (by rw [Int.emod_emod]; exact hA.lo_) (by rw [Int.emod_emod]; exact hB.lo_)
  · rw [key b d fun x hx hne => zB _ (by have := inA x hx; omega), cf_told, cf_told]
    exact hq.mul_ne (by rw [Int.emod_emod]; exact hA.hi_) (by rw [Int.emod_emod]; exact hB.hi_)
  · apply Classical.byContradiction
    intro hn
    apply hp
    rw [cf_prod]
    have : sumA (told q A) (fun x => x.2 * cf (told q B) (p - x.1)) = 0 := by
      have h2 : ∀ x ∈ told q A, x.2 * cf (told q B) (p - x.1) = 0 := fun x hx => by
        rw [zB _ (by have := inA x hx; omega)]; simp
      unfold sumA
      have h3 : (told q A).map (fun x => x.2 * cf (told q B) (p - x.1)) = (told q A).map fun _ => 0 := List.map_congr_left h2
      rw [h3]
      induction (told q A) with
      | nil => rfl
      | cons x l ih => simpa using ih
    rw [this]; simp
theorem ends_pow {q a b : Int} (hq : PrimeI q) {F : List Pr} (h : Ends q F a b) : ∀ n : Nat, Ends q (powL F n) (n * a) (n * b)
  | 0 => by
    have h2 := hq.1
    have e1 : (1 : Int) % q ≠ 0 := by rw [Int.emod_eq_of_lt (by omega) (by omega)]; decide
    refine ⟨?_, ?_, fun p hp => ?_⟩
    · simpa [powL] using e1
    · simpa [powL] using e1
    · by_cases e : (0 : Int) = p
      · subst e; simp
      · simp [powL, e] at hp
  | n + 1 => by
    have := ends_prod hq h (ends_pow hq h n)
    have e1 : ((n + 1 : Nat) : Int) * a = a + n * a := by rw [Int.natCast_add, Int.add_mul]; omega
    have e2 : ((n + 1 : Nat) : Int) * b = b + n * b := by rw [Int.natCast_add, Int.add_mul]; omega
    rw [e1, e2]
    exact this
theorem span_ge {F : List Pr} (hF : Sorted F) {x y : Pr} (hx : x ∈ F) (hy : y ∈ F) : y.1 - x.1 + 1 ≤ spanL F := by
  cases F with
  | nil => cases hx
  | cons z F =>
    have h1 : z.1 ≤ x.1 := by
      rcases List.mem_cons.mp hx with rfl | h
      · omega
      · have := (List.pairwise_cons.mp hF).1 x h; omega
    have h2 : y.1 ≤ ((z :: F).getLast (by simp)).1 := by
      have e := List.dropLast_concat_getLast (l := z :: F) (by simp)
      rw [← e] at hy hF
      unfold Sorted at hF
      rw [List.pairwise_append] at hF
      rcases List.mem_append.mp hy with h | h
      · have := hF.2.2 y h _ (List.mem_singleton.mpr rfl); omega
      · have : y = (z :: F).getLast (by simp) := by simpa using h
        rw [this]; omega
    show y.1 - x.1 + 1 ≤ ((z :: F).getLast (by simp)).1 - z.1 + 1
    omega
theorem ends_of {q : Int} {F : List Pr} (h : told q F ≠ []) : ∃ a b, Ends q F a b ∧ spanL (told q F) = b - a + 1 := by
  have hs := told_sorted q F
  cases e : told q F with
  | nil => exact absurd e h
  | cons z G =>
    have hz : z ∈ told q F := by rw [e]; exact List.mem_cons_self
    have hl : ((z :: G).getLast (by simp)) ∈ told q F := by rw [e]; exact List.getLast_mem _
    have mz := mem_told.mp hz
    have ml := mem_told.mp hl
    refine ⟨z.1, ((z :: G).getLast (by simp)).1, ⟨by rw [← mz.1]; exact mz.2, by rw [← ml.1]; exact ml.2, fun p hp => ?_⟩, rfl⟩
    have hm : (p, cf F p % q) ∈ told q F := mem_told.mpr ⟨rfl, hp⟩
    rw [e] at hm hs
    constructor
    · rcases List.mem_cons.mp hm with h | h
      · rw [← h]; show p ≤ p; omega
      · have := (List.pairwise_cons.mp hs).1 _ h
        have e2 : ((p, cf F p % q) : Pr).1 = p := rfl
        omega
    · have e3 := List.dropLast_concat_getLast (l := z :: G) (by simp)
      rw [← e3] at hm hs
      unfold Sorted at hs
      rw [List.pairwise_append] at hs
      rcases List.mem_append.mp hm with h | h
      · have := hs.2.2 _ h _ (List.mem_singleton.mpr rfl)
        have e2 : ((p, cf F p % q) : Pr).1 = p := rfl
        omega
      · have h2 : ((p, cf F p % q) : Pr) = (z :: G).getLast (by simp) := by simpa using h
        rw [← h2]; show p ≤ p; omega
theorem span_ends {q a b : Int} {G : List Pr} (h : Ends q G a b) : spanL (told q G) = b - a + 1 := by
  have h1 : (a, cf G a % q) ∈ told q G := mem_told.mpr ⟨rfl, h.lo_⟩
  have h2 : (b, cf G b % q) ∈ told q G := mem_told.mpr ⟨rfl, h.hi_⟩
  have h3 := span_ge (told_sorted q G) h1 h2
  have h4 : spanL (told q G) ≤ b - a + 1 := span_within (fun x hx => by
    have := mem_told.mp hx
    exact h.out x.1 (by rw [← this.1]; exact this.2)) (by have := h.out b h.hi_; omega)
  have e : ((b, cf G b % q) : Pr).1 - ((a, cf G a % q) : Pr).1 + 1 = b - a + 1 := rfl
  omega
theorem span_part {q m : Int} (hd : q ∣ m) (G : List Pr) : spanL (told q G) ≤ spanL (told m G) := by
  by_cases h : told q G = []
  · rw [h]
    show (0 : Int) ≤ _
    cases e : told m G with
    | nil => exact Int.le_refl _
    | cons z F =>
      have := span_ge (told_sorted m G) (x := z) (y := z) (by rw [e]; exact List.mem_cons_self) (by rw [e]; exact List.mem_cons_self)
      rw [e] at this
      omega
  · obtain ⟨a, b, he, hs⟩ := ends_of h
    have up : ∀ p, cf G p % q ≠ 0 → cf G p % m ≠ 0 := fun p hp e => hp (by rw [← Int.emod_emod_of_dvd _ hd, e]; simp)
    have k1 : ((a, cf G a % m) : Pr) ∈ told m G := mem_told.mpr ⟨rfl, up a he.lo_⟩
    have k2 : ((b, cf G b % m) : Pr) ∈ told m G := mem_told.mpr ⟨rfl, up b he.hi_⟩
    have := span_ge (told_sorted m G) k1 k2
    rw [hs]
    exact this
theorem least_le {m : Int} {ps : List Int} (hps : IsPrimes m ps) (F : List Pr) (n : Nat) : leastS ps F (n : Int) ≤ if spanL (told m (powL F n)) ≤ 1 then 1 else spanL (told m (powL F n)) := by
  refine leastS_le (m := m) (by split <;> omega) fun p hp hne => ?_
  have hpp := (hps.iff p).mp hp
  obtain ⟨a, b, he, hs⟩ := ends_of hne
  have h1 := span_ends (ends_pow hpp.1 he n)
  have h2 := span_part hpp.2 (powL F n)
  have e : (n : Int) * (b - a) = n * b - n * a := Int.mul_sub _ _ _
  have e3 : (n : Int) * (spanL (told p F) - 1) + 1 = spanL (told p (powL F n)) := by
    rw [hs, h1, show b - a + 1 - 1 = b - a by omega, e]
  split <;> omega
theorem taken_all {m : Int} (hm : 1 < m) (hm2 : m < 1000000) {F : List Pr} (hF : Form m F) {many N : Nat} (hN : ∀ n ≤ many, (told m (powL F n)).length ≤ N) (hN2 : N * N < sizeLine) (hb : (many : Int) < 2 ^ 62) (hFl : F.length < sizeLine) (am : Option Src) :
    f_rule_taken [ruD m F, .int many] am = if spanL (told m (powL F many)) ≤ 400 then .ret (.st (ruD m (told m (powL F many)))) am else .ex (exGreat 0) am := by
  obtain ⟨ps, hps, e⟩ := least_ok (m := m) (by omega) hm2 hFl (many := many) (by omega) am
  have hl := least_le hps F many
  unfold f_rule_taken m_rule_taken
  rw [runF_out]
  by_cases h : spanL (told m (powL F many)) ≤ 400
  · have h1 : ¬ 400 < leastS ps F many := by split at hl <;> omega
    rw [if_pos h]
    simp [e, h1, inside_ok hm (by omega) hF hN hN2 hb, noRef_ruD, made_ok h]
  · rw [if_neg h]
    by_cases h1 : 400 < leastS ps F many
    · simp [e, h1, sRaise, exGreat]
    · simp [e, h1, inside_ok hm (by omega) hF hN hN2 hb, noRef_ruD, made_ex (show 400 < spanL (told m (powL F many)) by omega)]
theorem on_ex {m m2 : Int} (hm : 0 < m) {A B : List Pr} (hs : Small A) (hl : A.length * B.length < sizeLine) (hsp : 400 < spanL (told m (prodL A B))) (am : Option Src) :
    f_rules_on [ruD m A, ruD m2 B] am = .ex (exGreat 0) am := by
  unfold f_rules_on m_rules_on
  rw [runF_out]
  simp [put_ok hm hs hl, noRef_ruD, made_ex hsp]
theorem and_ex {m m2 : Int} (hm : 0 < m) {A B : List Pr} (hl : A.length + B.length < sizeLine) (hsp : 400 < spanL (told m (A ++ B))) (am : Option Src) :
    f_rules_and [ruD m A, ruD m2 B] am = .ex (exGreat 0) am := by
  unfold f_rules_and m_rules_and
  rw [runF_out]
  have h := told_ok hm (T := A ++ B) (by simpa using hl) (d := .tuple ((A ++ B).map pT)) (.inr rfl) am
  rw [List.map_append] at h
  have hle : A.length + B.length ≤ sizeLine := by omega
  have hn := noRef_ruD m (told m (A ++ B))
  unfold ruD at h hn ⊢
  simp [atI_zero, atI_one, hle, h, hn]
  have := made_ex (m := m) hsp am
  unfold ruD at this
  simp [this]
end Rf

namespace Rf
open PySem PySem.Spec PyProof.Rows L2
mutual
def plainS : Dt → Bool
  | .none => true
  | .bool _ => true
  | .int i => decide (i.natAbs.log2 < 1920)
  | .str x => decide ((reprText x).length ≤ 1900)
  | .list xs => plainSs xs
  | .tuple xs => plainSs xs
  | .dict _ => false
def plainSs : List Dt → Bool
  | [] => true
  | x :: xs => plainS x && plainSs xs
end
mutual
theorem plain_S : ∀ {d : Dt}, plain d = true → plainS d = true
  | .none, _ => by simp [plainS]
  | .bool _, _ => by simp [plainS]
  | .int i, h => by simpa [plain, plainS] using h
  | .str _, h => by simp [plain] at h
  | .list xs, h => by
    simp only [plain] at h
    simp only [plainS]
    exact plains_S h
  | .tuple xs, h => by
    simp only [plain] at h
    simp only [plainS]
    exact plains_S h
  | .dict _, h => by simp [plain] at h
theorem plains_S : ∀ {ds : List Dt}, plains ds = true → plainSs ds = true
  | [], _ => by simp [plainSs]
  | x :: xs, h => by
    simp only [plains, Bool.and_eq_true] at h
    simp only [plainSs, Bool.and_eq_true]
    exact ⟨plain_S h.1, plains_S h.2⟩
end
mutual
theorem plainS_show : ∀ {d : Dt}, plainS d = true → d.showable = true ∧ d.hasDict = false
  | .none, _ => by simp [PyData.showable, PyData.hasDict]
  | .bool _, _ => by simp [PyData.showable, PyData.hasDict]
  | .int i, h => by
    simp only [plainS] at h
    simp only [PyData.showable, PyData.hasDict]
    exact ⟨h, trivial⟩
  | .str _, h => by simp [PyData.showable, PyData.hasDict]
  | .list xs, h => by
    simp only [plainS] at h
    simp only [PyData.showable, PyData.hasDict]
    exact plainSs_show h
  | .tuple xs, h => by
    simp only [plainS] at h
    simp only [PyData.showable, PyData.hasDict]
    exact plainSs_show h
  | .dict _, h => by simp [plainS] at h
theorem plainSs_show : ∀ {ds : List Dt}, plainSs ds = true → PyData.showableAll ds = true ∧ PyData.hasDictAll ds = false
  | [], _ => by simp [PyData.showableAll, PyData.hasDictAll]
  | x :: xs, h => by
    simp only [plainSs, Bool.and_eq_true] at h
    obtain ⟨a, b⟩ := plainS_show h.1
    obtain ⟨c, d⟩ := plainSs_show h.2
    simp [PyData.showableAll, PyData.hasDictAll, a, b, c, d]
end
mutual
theorem shownS_size : ∀ {d : Dt}, plainS d = true → d.shown.length + 2 ≤ 1930 * nodes d
  | .none, _ => by
    have e : (PyData.shown .none).length = 4 := rfl
    rw [e]; simp [nodes]
  | .bool b, _ => by
    have e : (PyData.shown (.bool b)).length ≤ 5 := by cases b <;> decide
    simp only [nodes]; omega
  | .int i, h => by
    simp only [plainS, decide_eq_true_eq] at h
    have e : (Str.ofString (toString i)).length ≤ 1921 := int_text_len_1921 h
    have e2 : (PyData.shown (.int i)).length = (Str.ofString (toString i)).length := rfl
    simp only [nodes]; omega
  | .str x, h => by
    simp only [plainS, decide_eq_true_eq] at h
    have e2 : (PyData.shown (.str x)).length = (reprText x).length := by rw [PyData.shown]
    simp only [nodes]; omega
  | .list xs, h => by
    simp only [plainS] at h
    have h1 := shownSL_size h
    have h2 := listText_len_le (PyData.shownAll xs)
    have h3 := PyData.shownAll_length xs
    have e : (PyData.shown (.list xs)).length = (listText (PyData.shownAll xs)).length := by rw [PyData.shown]
    simp only [nodes]; omega
  | .tuple xs, h => by
    simp only [plainS] at h
    have h1 := shownSL_size h
    have h2 := tupleText_len_le (PyData.shownAll xs)
    have h3 := PyData.shownAll_length xs
    have e : (PyData.shown (.tuple xs)).length = (tupleText (PyData.shownAll xs)).length := by rw [PyData.shown]
    simp only [nodes]; omega
  | .dict _, h => by simp [plainS] at h
theorem shownSL_size : ∀ {ds : List Dt}, plainSs ds = true → ((PyData.shownAll ds).map (·.length)).sum + 2 * ds.length ≤ 1930 * nodesL ds
  | [], _ => by simp [PyData.shownAll, nodesL]
  | x :: xs, h => by
    simp only [plainSs, Bool.and_eq_true] at h
    have h1 := shownS_size h.1
    have h2 := shownSL_size h.2
    simp only [PyData.shownAll, List.map_cons, List.sum_cons, List.length_cons, nodesL]
    omega
end
theorem repr_okS {d : Dt} (hd : isDisplay d = true) (hp : plainS d = true) (hdep : d.depth ≤ 64) (hn : nodes d ≤ 8000) : dRepr [d] = some (.st (.str d.shown)) := by
  have h1 := plainS_show hp
  have h2 := shownS_size hp
  have hz : d.shown.length ≤ sizeLine := by rw [sizeLine_eq]; omega
  cases d with
  | list xs => simp [dRepr, hd, h1, hdep, hz]
  | tuple xs => simp [dRepr, hd, h1, hdep, hz]
  | _ => cases hd
structure WrS (d : Dt) : Prop where
  plain : plainS d = true
  depth : d.depth ≤ 50
  nodes : nodes d ≤ 1500
theorem Wr.S {d : Dt} (h : Wr d) : WrS d := ⟨plain_S h.plain, h.depth, h.nodes⟩
theorem WrS.str {x : Str} (h : (reprText x).length ≤ 1900) : WrS (.str x) := ⟨by simpa [plainS] using h, by simp [PyData.depth], by simp [Rf.nodes]⟩
theorem WrS.int {i : Int} (h : i.natAbs < 10 ^ 200) : WrS (.int i) := ⟨plain_S (plain_big h), by simp [PyData.depth], by simp [Rf.nodes]⟩
theorem WrS.non : WrS .none := ⟨by simp [plainS], by simp [PyData.depth], by simp [Rf.nodes]⟩
theorem plainSs_of : ∀ {xs : List Dt}, (∀ x ∈ xs, plainS x = true) → plainSs xs = true
  | [], _ => by simp [plainSs]
  | x :: xs, h => by
    simp only [plainSs, Bool.and_eq_true]
    exact ⟨h x List.mem_cons_self, plainSs_of fun y hy => h y (List.mem_cons_of_mem _ hy)⟩
theorem repr_lstS {xs : List Dt} (h : ∀ x ∈ xs, WrS x) (hl : xs.length ≤ 5) : dRepr [.list xs] = some (.st (.str (PyData.shown (.list xs)))) := by
  have h1 : plainSs xs = true := plainSs_of fun x hx => (h x hx).plain
  have h2 : PyData.depthAll xs ≤ 50 := depths_of fun x hx => (h x hx).depth
  have h3 := nodes_of fun x hx => (h x hx).nodes
  refine repr_okS rfl (by simpa [plainS] using h1) (by simp [PyData.depth]; omega) (by simp [nodes]; omega)
theorem repr_tupS {xs : List Dt} (h : ∀ x ∈ xs, WrS x) (hl : xs.length ≤ 5) : dRepr [.tuple xs] = some (.st (.str (PyData.shown (.tuple xs)))) := by
  have h1 : plainSs xs = true := plainSs_of fun x hx => (h x hx).plain
  have h2 : PyData.depthAll xs ≤ 50 := depths_of fun x hx => (h x hx).depth
  have h3 := nodes_of fun x hx => (h x hx).nodes
  refine repr_okS rfl (by simpa [plainS] using h1) (by simp [PyData.depth]; omega) (by simp [nodes]; omega)
end Rf

namespace Rf
open PySem PySem.Spec PyProof.Rows L2
theorem pairsD_pT : ∀ F : List Pr, pairsD (F.map pT) = some (F.map kT)
  | [] => rfl
  | x :: F => by
    rw [List.map_cons, List.map_cons]
    simp only [pairsD]
    rw [pairsD_pT F]
    rfl
def foldP (F : List Pr) : List Pr := F.foldl (fun D x => putI D x.1 x.2) []
theorem mergeD_kT (F : List Pr) : ∀ D : List Pr, mergeD (D.map kT) (F.map kT) = (F.foldl (fun D x => putI D x.1 x.2) D).map kT := by
  induction F with
  | nil => intro D; rfl
  | cons x F ih =>
    intro D
    have := ih (putI D x.1 x.2)
    unfold mergeD at this ⊢
    rw [List.map_cons, List.foldl_cons, List.foldl_cons, ← this, ← dPut_kT]
    rfl
theorem dDict_pT (F : List Pr) : dDict [.list (F.map pT)] = some (.ow (.dict ((foldP F).map kT))) := by
  have := mergeD_kT F []
  simp [dDict, pairsD_pT, foldP]
  exact this
theorem dDict_tT (F : List Pr) : dDict [.tuple (F.map pT)] = some (.ow (.dict ((foldP F).map kT))) := by
  have := mergeD_kT F []
  simp [dDict, pairsD_pT, foldP]
  exact this
theorem getI_foldP (F : List Pr) (hF : (F.map (·.1)).Nodup) (k : Int) : (getI (foldP F) k).getD 0 = cf F k := by
  refine snoc_ind (P := fun F => (F.map (·.1)).Nodup → (getI (foldP F) k).getD 0 = cf F k) (fun _ => rfl) (fun T x ih h => ?_) F hF
  rw [List.map_append, List.nodup_append] at h
  have h1 := ih h.1
  have e : foldP (T ++ [x]) = putI (foldP T) x.1 x.2 := by unfold foldP; simp
  rw [e, getI_put, cf_append]
  by_cases hk : k = x.1
  · rw [if_pos hk]
    subst hk
    have : cf T x.1 = 0 := cf_zero fun y hy ey => h.2.2 y.1 (List.mem_map_of_mem hy) x.1 (by simp) ey
    rw [this]; simp
  · rw [if_neg hk, h1]
    simp [Ne.symm hk]
theorem sorted_nodup {F : List Pr} (h : Sorted F) : (F.map (·.1)).Nodup := by
  unfold List.Nodup
  rw [List.pairwise_map]
  exact h.imp fun h e => by omega
theorem get_pairs {F : List Pr} (hF : Sorted F) (k : Int) : (match (getI (foldP F) k).map PyData.int with | some d => d | none => PyData.int 0) = .int (cf F k) := by
  rw [← getI_foldP F (sorted_nodup hF) k]
  cases getI (foldP F) k <;> rfl
theorem cell_ok {m p : Int} {F : List Pr} (hF : Sorted F) (am : Option Src) : f_cell_of [ruD m F, .int p] am = .ret (.st (.int (cf F p))) am := by
  unfold f_cell_of m_cell_of
  rw [runF_out]
  have := get_pairs hF p
  simp [dDict_tT]
  cases e : getI (foldP F) p with
  | none => rw [e] at this; simp at this; simp [e, this]
  | some v => rw [e] at this; simp at this; simp [e, this]
theorem led_ok {m m2 : Int} (hm : 0 < m) {A B : List Pr} (hs : Small A) (hl : A.length * B.length < sizeLine) (hsp : spanL (told m (prodL A B)) ≤ 400) (am : Option Src) :
    f_row_led [ruD m A, ruD m2 B] am = .ret (.st (ruD m (told m (prodL A B)))) am := by
  unfold f_row_led m_row_led
  rw [runF_out]
  simp [on_ok hm hs hl hsp]
theorem led_ex {m m2 : Int} (hm : 0 < m) {A B : List Pr} (hs : Small A) (hl : A.length * B.length < sizeLine) (hsp : 400 < spanL (told m (prodL A B))) (am : Option Src) :
    f_row_led [ruD m A, ruD m2 B] am = .ex (exGreat 0) am := by
  unfold f_row_led m_row_led
  rw [runF_out]
  simp [on_ex hm hs hl hsp]
theorem plus_ok {m m2 : Int} (hm : 0 < m) {A B : List Pr} (hl : A.length + B.length < sizeLine) (hsp : spanL (told m (A ++ B)) ≤ 400) (am : Option Src) :
    f_rows_plus [ruD m A, ruD m2 B] am = .ret (.st (ruD m (told m (A ++ B)))) am := by
  unfold f_rows_plus m_rows_plus
  rw [runF_out]
  simp [and_ok hm hl hsp]
theorem plus_ex {m m2 : Int} (hm : 0 < m) {A B : List Pr} (hl : A.length + B.length < sizeLine) (hsp : 400 < spanL (told m (A ++ B))) (am : Option Src) :
    f_rows_plus [ruD m A, ruD m2 B] am = .ex (exGreat 0) am := by
  unfold f_rows_plus m_rows_plus
  rw [runF_out]
  simp [and_ex hm hl hsp]
def cyc (cs : List Int) (k : Int) : Int := cs.getD (k % (cs.length : Nat)).toNat 0
def cycL (F : List Pr) (cs : List Int) (k : Int) : Int := sumA F fun x => x.2 * cyc cs (k - x.1)
theorem sumA_snoc (A : List Pr) (x : Pr) (f : Pr → Int) : sumA (A ++ [x]) f = sumA A f + f x := by unfold sumA; simp
theorem enum_ints (cs : List Int) : enumD (cs.map PyData.int) = (List.range cs.length).map fun i => PyData.tuple [.int (i : Nat), .int (cs.getD i 0)] := by
  unfold enumD
  rw [List.length_map]
  refine List.ext_getElem (by simp) fun i h1 h2 => ?_
  simp at h1 h2
  simp [h1]
theorem hit_iff {n : Nat} {k l : Nat} {p : Int} (hk : k < n) (hl : l < n) : ((l : Int) + p) % n = k ↔ (((k : Int) - p) % n).toNat = l := by
  have hn : (0 : Int) < n := by omega
  have a1 := Int.emod_nonneg ((k : Int) - p) (show (n : Int) ≠ 0 by omega)
  constructor
  · intro h
    have : ((k : Int) - p) % n = l := by
      rw [← h, Int.emod_sub_emod, show (l : Int) + p - p = l by omega, Int.emod_eq_of_lt (by omega) (by omega)]
    omega
  · intro h
    have e : ((k : Int) - p) % n = l := by omega
    rw [← e, Int.emod_add_emod, show (k : Int) - p + p = k by omega, Int.emod_eq_of_lt (by omega) (by omega)]
theorem getD_map_range {g : Nat → Int} {n i : Nat} (h : i < n) : ((List.range n).map g).getD i 0 = g i := by
  rw [List.getD_eq_getElem?_getD, List.getElem?_map, List.getElem?_range h]; rfl
theorem set_range {g : Nat → Dt} {n i : Nat} {d : Dt} : ((List.range n).map g).set i d = (List.range n).map fun k => if k = i then d else g k := by
  refine List.ext_getElem (by simp) fun j h1 h2 => ?_
  simp at h1
  rw [List.getElem_set]
  simp
  by_cases e : i = j
  · subst e; simp
  · rw [if_neg e, if_neg (Ne.symm e)]
theorem round_ok {m : Int} (hm : 0 < m) {F : List Pr} (hs : Small F) (hF : F.length < sizeLine) {cs : List Int} (hn : cs ≠ []) (hl : cs.length ≤ 1000) (am : Option Src) :
    f_cells_led [ruD m F, .tuple (cs.map PyData.int)] am = .ret (.st (.tuple ((List.range cs.length).map fun k : Nat => PyData.int (cycL F cs (k : Int) % m)))) am := by
  have hpos : 0 < cs.length := List.length_pos_iff.mpr hn
  unfold f_cells_led m_cells_led
  rw [runF_out]
  have hr : RepOk 1 (cs.length : Int) := by unfold RepOk; have := size_big; simp; omega
  simp [hr]
  have e0 : List.replicate cs.length (PyData.int 0) = (List.range cs.length).map fun k : Nat => PyData.int (cycL [] cs (k : Int)) := by
    refine List.ext_getElem (by simp) fun i h1 h2 => ?_
    simp [cycL, sumA]
  rw [e0]
  refine for_gx (f := pT) (P := fun r => out r = _) (fun pre s => ∃ a b c d, s = ⟨[.fz (ruD m F), .fz (.tuple (cs.map PyData.int)), .fz (.int (cs.length : Nat)), .ow (.list ((List.range cs.length).map fun k : Nat => PyData.int (cycL pre cs (k : Int)))), a, b, c, d], am⟩) ⟨_, _, _, _, rfl⟩ ?_ ?_
  · rintro p x q s hp ⟨a, b, c, d, rfl⟩
    have hx : -(2 ^ 64) < x.2 ∧ x.2 < 2 ^ 64 := hs x (by rw [hp]; simp)
    refine ⟨_, by simp [pT]; rfl, goes_q fun Q hQ => ?_⟩
    simp [enum_ints]
    have hz0 : ∀ k : Nat, (if ((k : Int) - x.1) % (cs.length : Nat) < 0 then x.2 * cyc cs (k - x.1) else 0) = 0 := fun k => by
      have c1 := Int.emod_nonneg ((k : Int) - x.1) (show ((cs.length : Nat) : Int) ≠ 0 by omega)
      rw [if_neg (by omega)]
    refine for_ge (f := fun i : Nat => PyData.tuple [.int (i : Nat), .int (cs.getD i 0)]) (fun pre s => ∃ c d, s = ⟨[.fz (ruD m F), .fz (.tuple (cs.map PyData.int)), .fz (.int (cs.length : Nat)), .ow (.list ((List.range cs.length).map fun k : Nat => PyData.int (cycL p cs k + if ((k : Int) - x.1) % (cs.length : Nat) < (pre.length : Nat) then x.2 * cyc cs (k - x.1) else 0))), .fz (.int x.1), .fz (.int x.2), c, d], am⟩) ⟨c, d, by simp [hz0]⟩ ?_ ?_
    · rintro p2 i q2 s hp2 ⟨c, d, rfl⟩
      have hi : i = p2.length ∧ i < cs.length := by
        have h1 : (List.range cs.length)[p2.length]? = some i := by rw [hp2]; simp
        obtain ⟨h2, h3⟩ := List.getElem?_eq_some_iff.mp h1
        simp at h2 h3
        exact ⟨h3.symm, by omega⟩
      obtain ⟨rfl, hi⟩ := hi
      have hnn : (0 : Int) < (cs.length : Nat) := by omega
      have b1 := Int.emod_nonneg ((p2.length : Int) + x.1) (show ((cs.length : Nat) : Int) ≠ 0 by omega)
      have b2 := Int.emod_lt_of_pos ((p2.length : Int) + x.1) hnn
      obtain ⟨j, hj⟩ : ∃ j : Nat, ((p2.length : Int) + x.1) % (cs.length : Nat) = j := ⟨_, (Int.toNat_of_nonneg b1).symm⟩
      have hjn : j < cs.length := by omega
      have hm2 : MulOk x.2 (cs.getD p2.length 0) := mulOk_left hx
      have hat : ∀ g : Nat → Dt, atI ((List.range cs.length).map g) (j : Int) = some (g j) := fun g => by
        rw [_root_.Rf.atI_nat, List.getElem?_map, List.getElem?_range hjn]; rfl
      have hix : ixN cs.length (j : Int) = some j := by
        unfold ixN
        rw [if_pos (by omega), if_pos (by omega)]; simp
      refine ⟨_, by simp; rfl, goes_of (s := ⟨[.fz (ruD m F), .fz (.tuple (cs.map PyData.int)), .fz (.int (cs.length : Nat)), .ow (.list ((List.range cs.length).map fun k : Nat => PyData.int (cycL p cs k + if ((k : Int) - x.1) % (cs.length : Nat) < ((p2 ++ [p2.length]).length : Nat) then x.2 * cyc cs (k - x.1) else 0))), .fz (.int x.1), .fz (.int x.2), .fz (.int (p2.length : Nat)), .fz (.int (cs.getD p2.length 0))], am⟩) ?_ ⟨_, _, rfl⟩⟩
      have hm3 := hm2
      rw [List.getD_eq_getElem?_getD] at hm3
      simp [hpos, hj, hat, hix, hm3, set_range]
      intro k hk
      have c1 := Int.emod_nonneg ((k : Int) - x.1) (show ((cs.length : Nat) : Int) ≠ 0 by omega)
      have hh := hit_iff (p := x.1) hk hi
      rw [hj] at hh
      by_cases e : k = j
      · subst e
        have h4 := hh.mp rfl
        have hc : cyc cs ((k : Int) - x.1) = cs.getD p2.length 0 := by unfold cyc; rw [h4]
        rw [List.getD_eq_getElem?_getD] at hc
        rw [if_pos rfl, hc, if_neg (by omega), if_pos (by omega), Int.add_zero]
      · have h4 : ¬ (((k : Int) - x.1) % (cs.length : Nat)).toNat = p2.length := fun h => e (by have := hh.mpr h; omega)
        rw [if_neg e]
        by_cases h5 : ((k : Int) - x.1) % (cs.length : Nat) < (p2.length : Nat)
        · rw [if_pos h5, if_pos (by omega)]
        · rw [if_neg h5, if_neg (by omega)]
    · rintro s' ⟨c, d, rfl⟩
      have hfin : ((List.range cs.length).map fun k : Nat => PyData.int (cycL p cs k + if ((k : Int) - x.1) % (cs.length : Nat) < ((List.range cs.length).length : Nat) then x.2 * cyc cs (k - x.1) else 0)) = (List.range cs.length).map fun k : Nat => PyData.int (cycL (p ++ [x]) cs k) := by
        refine List.map_congr_left fun k hk => ?_
        have b2 := Int.emod_lt_of_pos ((k : Int) - x.1) (show (0 : Int) < (cs.length : Nat) by omega)
        rw [List.length_range, if_pos (by omega)]
        unfold cycL
        rw [sumA_snoc]
      rw [hfin]
      exact hQ _ ⟨_, _, c, d, rfl⟩
  · rintro s' ⟨a, b, c, d, rfl⟩
    simp
    rw [compL_all (f := fun k : Nat => PyData.int (cycL F cs k)) (g := fun k : Nat => PyData.int (cycL F cs k % m)) (List.range cs.length) (fun k hk => ⟨_, by simp; rfl, ⟨.st (.int (cycL F cs k % m)), by simp [hm], rfl⟩, by simp⟩) (by simp; have := size_big; omega)]
    simp
theorem first_loop {v : Rf.Slot} {am : Option Src} {g : Nat → Int} : ∀ (l : List Nat) (a b : Rf.Slot), ∃ s', forL (.tp [.nm 1, .nm 2]) (sIf (tst (eBin dNe (eVar 2) (eC (.int 0)))) (sRet (eVar 1)) sNx) (l.map fun i => PyData.tuple [.int (i : Nat), .int (g i)]) ⟨[v, a, b], am⟩ =
    .ok (match l.find? (fun i => !decide (g i = 0)) with | some i => .rt (.st (.int (i : Nat))) | none => .nx) s' ∧ s'.am = am
  | [], a, b => ⟨⟨[v, a, b], am⟩, rfl, rfl⟩
  | i :: l, a, b => by
    by_cases h : g i = 0
    · obtain ⟨s', e, h'⟩ := first_loop (v := v) (am := am) (g := g) l (.fz (.int (i : Nat))) (.fz (.int (g i)))
      refine ⟨s', ?_, h'⟩
      rw [List.map_cons, List.find?_cons_of_neg (by simp [h]), ← e]
      simp [forL, h]
    · refine ⟨⟨[v, .fz (.int (i : Nat)), .fz (.int (g i))], am⟩, ?_, rfl⟩
      rw [List.map_cons, List.find?_cons_of_pos (by simp [h])]
      simp [forL, h]
theorem first_ok {cs : List Int} (am : Option Src) : f_first_lit [.tuple (cs.map PyData.int)] am = .ret (.st (match (List.range cs.length).find? (fun i => !decide (cs.getD i 0 = 0)) with | some i => .int (i : Nat) | none => .none)) am := by
  unfold f_first_lit m_first_lit
  rw [runF_out]
  obtain ⟨s', e, h⟩ := first_loop (v := .fz (.tuple (cs.map PyData.int))) (am := am) (g := fun i => cs.getD i 0) (List.range cs.length) .no .no
  simp [enum_ints] at e ⊢
  rw [e]
  cases q : (List.range cs.length).find? (fun i => !decide (cs[i]?.getD 0 = 0)) with
  | none => simp [h]
  | some i => simp [h]
end Rf

namespace Rf
open PySem PySem.Spec PyProof.Rows L2
theorem shaped_ints (l : List Int) : SeqAt.shaped (.list (l.map PyData.int)) = true := by
  have h1 : PyData.canLayAll0 (l.map PyData.int) = true := by
    induction l with
    | nil => rfl
    | cons x l ih => simp [PyData.canLayAll0, PyData.canLay0, ih]
  have h2 : PyData.depthAll (l.map PyData.int) ≤ 1 := by
    induction l with
    | nil => simp [PyData.depthAll]
    | cons x l ih =>
      have := ih (by simpa [PyData.canLayAll0, PyData.canLay0] using h1)
      simp [PyData.depthAll, PyData.depth]
      omega
  have h3 : PyData.depth (.list (l.map PyData.int)) ≤ 64 := by
    simp [PyData.depth]
    omega
  simp [SeqAt.shaped, PyData.canLay0, h1, h3]
theorem eqvAll_ints : ∀ a b : List Int, PyData.eqvAll (a.map PyData.int) (b.map PyData.int) = decide (a = b)
  | [], [] => by simp [PyData.eqvAll]
  | [], _ :: _ => by simp [PyData.eqvAll]
  | _ :: _, [] => by simp [PyData.eqvAll]
  | x :: a, y :: b => by
    have := eqvAll_ints a b
    simp [PyData.eqvAll, PyData.eqv, this]
    by_cases h : x = y <;> simp [h]
theorem dNe_ints (a b : List Int) : dNe (.list (a.map PyData.int)) (.list (b.map PyData.int)) = some (.st (.bool (!decide (a = b)))) := by
  simp only [dNe]
  rw [if_pos ⟨shaped_ints a, shaped_ints b⟩]
  simp [PyData.eqv, eqvAll_ints]
theorem dNe_same {α : Type} (f : α → Int) (l : List α) : dNe (.list (l.map fun x => PyData.int (f x))) (.list (l.map fun x => PyData.int (f x))) = some (.st (.bool false)) := by
  have e : (l.map fun x => PyData.int (f x)) = (l.map f).map PyData.int := by rw [List.map_map]; rfl
  rw [e, dNe_ints]
  simp
theorem dNe_none {α : Type} (f : α → Int) (l : List α) : dNe (.list (l.map fun x => PyData.int (f x))) (.list []) = some (.st (.bool (!l.isEmpty))) := by
  have e : (l.map fun x => PyData.int (f x)) = (l.map f).map PyData.int := by rw [List.map_map]; rfl
  rw [e, show ([] : List Dt) = ([] : List Int).map PyData.int from rfl, dNe_ints]
  cases l <;> simp
theorem nodes_ints : ∀ l : List Int, nodesL (l.map PyData.int) ≤ 2 * l.length
  | [] => by simp [nodesL]
  | x :: l => by
    have := nodes_ints l
    simp [nodesL, nodes]
    omega
theorem plain_ints {l : List Int} (h : ∀ x ∈ l, x.natAbs < 10 ^ 200) : plain (.tuple (l.map PyData.int)) = true := by
  simp only [plain]
  exact plains_of fun x hx => by
    obtain ⟨i, hi, rfl⟩ := List.mem_map.mp hx
    exact plain_big (h i hi)
theorem repr_ints {l : List Int} (h : ∀ x ∈ l, x.natAbs < 10 ^ 200) (hl : l.length ≤ 1000) : dRepr [.tuple (l.map PyData.int)] = some (.st (.str (PyData.shown (.tuple (l.map PyData.int))))) := by
  refine repr_okS rfl (plain_S (plain_ints h)) ?_ ?_
  · have : PyData.depthAll (l.map PyData.int) ≤ 1 := depths_of fun x hx => by
      obtain ⟨i, _, rfl⟩ := List.mem_map.mp hx
      simp [PyData.depth]
    simp [PyData.depth]
    omega
  · have := nodes_ints l
    simp [nodes]
    omega
theorem cf_prod_append (A B C : List Pr) (p : Int) : cf (prodL A (B ++ C)) p = cf (prodL A B) p + cf (prodL A C) p := by
  rw [cf_prod_comm, prodL_append, cf_append, cf_prod_comm B, cf_prod_comm C]
theorem prod_turn (A B : List Pr) : prodL (A.map fun x => (-x.1, x.2)) (B.map fun x => (-x.1, x.2)) = (prodL A B).map fun x => (-x.1, x.2) := by
  induction A with
  | nil => rfl
  | cons a A ih =>
    rw [List.map_cons, prodL_cons, prodL_cons, ih, List.map_append, List.map_map, List.map_map]
    congr 1
    refine List.map_congr_left fun x _ => ?_
    show (-a.1 + -x.1, a.2 * x.2) = (-(a.1 + x.1), a.2 * x.2)
    rw [Int.neg_add]
theorem prod_move (a b : Int) (A B : List Pr) : prodL (A.map fun x => (x.1 + a, x.2)) (B.map fun x => (x.1 + b, x.2)) = (prodL A B).map fun x => (x.1 + (a + b), x.2) := by
  induction A with
  | nil => rfl
  | cons y A ih =>
    rw [List.map_cons, prodL_cons, prodL_cons, ih, List.map_append, List.map_map, List.map_map]
    congr 1
    refine List.map_congr_left fun x _ => ?_
    show (y.1 + a + (x.1 + b), y.2 * x.2) = (y.1 + x.1 + (a + b), y.2 * x.2)
    rw [show y.1 + a + (x.1 + b) = y.1 + x.1 + (a + b) by omega]
theorem map_move0 (B : List Pr) : (B.map fun x => (x.1 + 0, x.2)) = B := by
  refine (List.map_congr_left fun x _ => ?_).trans (List.map_id B)
  show (x.1 + 0, x.2) = x
  rw [Int.add_zero]
theorem prod_moveL (a : Int) (A B : List Pr) : prodL (A.map fun x => (x.1 + a, x.2)) B = (prodL A B).map fun x => (x.1 + a, x.2) := by
  have := prod_move a 0 A B
  rw [map_move0, Int.add_zero] at this
  exact this
theorem move_form {m a : Int} {F : List Pr} (h : Form m F) : Form m (F.map fun x => (x.1 + a, x.2)) := by
  refine ⟨?_, fun x hx => ?_⟩
  · unfold Sorted
    rw [List.pairwise_map]
    exact h.1.imp fun h => by show _ + a < _ + a; omega
  · obtain ⟨y, hy, rfl⟩ := List.mem_map.mp hx
    exact h.2 y hy
theorem told_move {m : Int} (hm : 0 < m) (a : Int) (F : List Pr) : told m (F.map fun x => (x.1 + a, x.2)) = (told m F).map fun x => (x.1 + a, x.2) := by
  rw [← told_self (move_form (a := a) (told_form hm F))]
  exact Eqm.told ((eqm_told m F).symm.move a)
theorem told_turn (m : Int) (F : List Pr) : told m (F.map fun x => (-x.1, x.2)) = told m ((told m F).map fun x => (-x.1, x.2)) := Eqm.told (eqm_told m F).symm.turn
theorem cf_range (a : Int) (g : Nat → Int) (p : Int) : ∀ n : Nat, cf ((List.range n).map fun i : Nat => (a + (i : Int), g i)) p = if a ≤ p ∧ p < a + n then g (p - a).toNat else 0
  | 0 => by
    rw [if_neg (by omega)]; rfl
  | n + 1 => by
    rw [List.range_succ, List.map_append, cf_append, cf_range a g p n]
    simp only [List.map_cons, List.map_nil, cf_cons, cf_nil]
    by_cases h : a + (n : Int) = p
    · rw [if_neg (by omega), if_pos h, if_pos (by omega), show (p - a).toNat = n by omega]; omega
    · rw [if_neg h]
      by_cases h2 : a ≤ p ∧ p < a + n
      · rw [if_pos h2, if_pos (by omega)]; omega
      · rw [if_neg h2, if_neg (by omega)]; omega
theorem within_zero {lo hi p : Int} {F : List Pr} (h : Within lo hi F) (hp : p < lo ∨ hi < p) : cf F p = 0 := cf_zero fun x hx e => by
  have := h x hx
  omega
theorem told_looks {m a : Int} {n : Nat} {F : List Pr} (hF : Form m F) (h : Within a (a + n - 1) F) : told m ((List.range n).map fun i : Nat => (a + (i : Int), cf F (a + i))) = F := by
  refine (told_congr fun p => ?_).trans (told_self hF)
  rw [cf_range a (fun i => cf F (a + (i : Int)))]
  by_cases hp : a ≤ p ∧ p < a + n
  · rw [if_pos hp, show a + (((p - a).toNat : Nat) : Int) = p by omega]
  · rw [if_neg hp, within_zero h (by omega)]
def divs (m : Int) : List Nat := (List.range (m + 1 - 2).toNat).filter fun i : Nat => decide (m % (2 + (i : Int)) = 0)
theorem divs_dvd {m : Int} {i : Nat} (h : i ∈ divs m) : (2 + (i : Int)) ∣ m := by
  unfold divs at h
  rw [List.mem_filter] at h
  exact Int.dvd_of_emod_eq_zero (by simpa using h.2)
theorem divs_le {m : Int} {i : Nat} (h : i ∈ divs m) : (2 + (i : Int)) ≤ m := by
  unfold divs at h
  rw [List.mem_filter, List.mem_range] at h
  omega
theorem divs_few (m : Int) : (divs m).length ≤ (m + 1 - 2).toNat := by
  unfold divs
  refine Nat.le_trans (List.length_filter_le _ _) ?_
  simp
theorem divs_self {m : Int} (hm : 2 ≤ m) : ((m - 2).toNat) ∈ divs m := by
  unfold divs
  rw [List.mem_filter, List.mem_range]
  refine ⟨by omega, ?_⟩
  rw [show 2 + (((m - 2).toNat : Nat) : Int) = m by omega]
  simp
theorem comp_divs {c j : Nat} {s : S} {m : Int} (hj : j ≠ c) (h2 : s.env[j]? = some (.fz (.int m))) (h13 : s.env[c]? = some .no) (hm : 0 ≤ m) (hm2 : m < 100000) :
    compL [c] (.nm c) (tst (eBin dEq (eBin dMod (eCall dInt (aCons (eVar j) aNil)) (eVar c)) (eC (.int 0)))) (eVar c) (rangeD 2 (m + 1 - 2).toNat) [] s = some ((divs m).map (fun i : Nat => .int (2 + (i : Int))), s) := by
  have hl : c < s.env.length := by
    rcases Nat.lt_or_ge c s.env.length with h | h
    · exact h
    · rw [List.getElem?_eq_none h] at h13; cases h13
  unfold rangeD
  rw [compL_map (g := fun i : Nat => PyData.int (2 + (i : Int))) (p := fun i : Nat => decide (m % (2 + (i : Int)) = 0)) _ [] (fun i hi => ?_) ?_]
  · rfl
  · have := size_big
    simp
    omega
  · refine ⟨⟨s.env.set c (.fz (.int (2 + (i : Int)))), s.am⟩, by simp [hl], ?_, fun _ => ⟨.st (.int (2 + (i : Int))), ?_, rfl⟩, ?_⟩
    · have h13' : (s.env.set c (.fz (.int (2 + (i : Int)))))[c]? = some (.fz (.int (2 + (i : Int)))) := by simp [hl]
      have hj' : (s.env.set c (.fz (.int (2 + (i : Int)))))[j]? = some (.fz (.int m)) := by
        rw [List.getElem?_set_ne (Ne.symm hj)]; exact h2
      simp [h13', hj', show 0 < 2 + (i : Int) by omega]
    · have h13' : (s.env.set c (.fz (.int (2 + (i : Int)))))[c]? = some (.fz (.int (2 + (i : Int)))) := by simp [hl]
      simp [h13']
    · obtain ⟨env, am⟩ := s
      simp
      refine List.ext_getElem? fun k => ?_
      by_cases hk : k = c
      · subst hk; rw [List.getElem?_set_self hl, h13]
      · rw [List.getElem?_set_ne (Ne.symm hk)]
theorem at_cyc {cs : List Int} (hn : cs ≠ []) (z : Int) : atI (cs.map PyData.int) (z % (cs.length : Nat)) = some (.int (cyc cs z)) := by
  have hpos : 0 < cs.length := List.length_pos_iff.mpr hn
  have a1 := Int.emod_nonneg z (show ((cs.length : Nat) : Int) ≠ 0 by omega)
  have a2 := Int.emod_lt_of_pos z (show (0 : Int) < (cs.length : Nat) by omega)
  obtain ⟨j, hj⟩ : ∃ j : Nat, z % (cs.length : Nat) = j := ⟨_, (Int.toNat_of_nonneg a1).symm⟩
  have hjn : j < cs.length := by omega
  unfold cyc
  rw [hj, _root_.Rf.atI_nat, List.getElem?_map, Int.toNat_natCast, List.getD_eq_getElem?_getD, List.getElem?_eq_getElem hjn]
  rfl
theorem cyc_twice {cs : List Int} (hn : cs ≠ []) (k : Int) : cyc (cs ++ cs) k = cyc cs k := by
  have hpos : 0 < cs.length := List.length_pos_iff.mpr hn
  unfold cyc
  rw [List.length_append, Int.natCast_add]
  generalize hL : ((cs.length : Nat) : Int) = n
  have hn0 : 0 < n := by omega
  have a1 := Int.emod_nonneg k (show n + n ≠ 0 by omega)
  have a2 := Int.emod_lt_of_pos k (show 0 < n + n by omega)
  have a3 : k % (n + n) % n = k % n := Int.emod_emod_of_dvd k ⟨2, by omega⟩
  generalize hj : k % (n + n) = j at *
  by_cases h : j < n
  · rw [Int.emod_eq_of_lt a1 h] at a3
    rw [List.getD_eq_getElem?_getD, List.getD_eq_getElem?_getD, List.getElem?_append_left (by omega), a3]
  · have e : j % n = j - n := by
      rw [← Int.emod_eq_of_lt (show 0 ≤ j - n by omega) (show j - n < n by omega), Int.sub_emod_right]
    rw [e] at a3
    rw [List.getD_eq_getElem?_getD, List.getD_eq_getElem?_getD, List.getElem?_append_right (by omega), ← a3, show j.toNat - cs.length = (j - n).toNat by omega]
theorem cyc_step (cs : List Int) (k : Int) : cyc cs (cs.length + k) = cyc cs k := by
  unfold cyc
  rw [Int.add_emod_left]
theorem cycL_twice {cs : List Int} (hn : cs ≠ []) (F : List Pr) (k : Int) : cycL F (cs ++ cs) k = cycL F cs k := by
  unfold cycL
  congr 1
  funext x
  rw [cyc_twice hn]
theorem cycL_step (F : List Pr) (cs : List Int) (k : Int) : cycL F cs (cs.length + k) = cycL F cs k := by
  unfold cycL
  congr 1
  funext x
  rw [show (cs.length : Int) + k - x.1 = cs.length + (k - x.1) by omega, cyc_step]
theorem round_twice {cs : List Int} (hn : cs ≠ []) (F : List Pr) (m : Int) : ((List.range (cs ++ cs).length).map fun k : Nat => PyData.int (cycL F (cs ++ cs) (k : Int) % m)) =
    ((List.range cs.length).map fun k : Nat => PyData.int (cycL F cs (k : Int) % m)) ++ ((List.range cs.length).map fun k : Nat => PyData.int (cycL F cs (k : Int) % m)) := by
  rw [List.length_append, List.range_add, List.map_append, List.map_map]
  congr 1
  · exact List.map_congr_left fun k _ => by rw [cycL_twice hn]
  · refine List.map_congr_left fun k _ => ?_
    show PyData.int (cycL F (cs ++ cs) ((cs.length + k : Nat) : Int) % m) = _
    rw [cycL_twice hn, Int.natCast_add, cycL_step]
end Rf

namespace Law_k14
open PySem PySem.Spec PyProof.Rows L2 Rf
noncomputable def m__law_form : M Flo := sSeq (sSet 2 (eDict0)) (sSeq (sFor (iSeq (eVar 1)) (.tp [(.nm 3), (.nm 4)]) (sSetIx (eBin dMod (eCall dInt (aCons (eBin dAdd (eGet2 (eVar 2) (eVar 3) (eC (.int 0))) (eVar 4)) (aNil))) (eVar 0)) (eVar 2) (eVar 3))) (sRet (eTup (aCons (eVar 0) (aCons (eCall dTuple (aCons (eComp [3] (iSeq (eCall dSorted2 (aCons (eVar 2) (aNil)))) (.nm 3) (tst (eBin dNe (eBin dIxD (eVar 2) (eVar 3)) (eC (.int 0)))) (eTup (aCons (eVar 3) (aCons (eBin dIxD (eVar 2) (eVar 3)) (aNil))))) (aNil))) (aNil))))))
noncomputable def f__law_form : FnD := runF 5 m__law_form
noncomputable def m__law_rule : M Flo := sSeq (sSet 4 (eLst (aNil))) (sSeq (sFor (iRange1 (aCons (eFn f__law_pick (aCons (eVar 0) (aCons (eBin dAdd (eVar 2) (eC (.int 1))) (aNil)))) (aNil))) (.nm 5) (sDrop (eMut fApp (eVar 4) (aCons (eTup (aCons (eBin dSub (eFn f__law_pick (aCons (eVar 0) (aCons (eBin dAdd (eBin dMul (eC (.int 2)) (eVar 3)) (eC (.int 1))) (aNil)))) (eVar 3)) (aCons (eFn f__law_pick (aCons (eVar 0) (aCons (eBin dMul (eC (.int 2)) (eVar 1)) (aNil)))) (aNil)))) (aNil))))) (sRet (eFn f__law_form (aCons (eVar 1) (aCons (eVar 4) (aNil))))))
noncomputable def f__law_rule : FnD := runF 6 m__law_rule
noncomputable def m__law_at : M Flo := sRet (eGet2 (eCall dDict (aCons (eBin dIxD (eVar 0) (eC (.int 1))) (aNil))) (eVar 1) (eC (.int 0)))
noncomputable def f__law_at : FnD := runF 2 m__law_at
noncomputable def m__law_led_at : M Flo := sRet (eBin dMod (eCall dInt (aCons (eCall dSum (aCons (eComp [3, 4] (iSeq (eBin dIxD (eVar 0) (eC (.int 1)))) (.tp [(.nm 3), (.nm 4)]) (bYes) (eBin dMul (eVar 4) (eFn f__law_at (aCons (eVar 1) (aCons (eBin dSub (eVar 2) (eVar 3)) (aNil)))))) (aNil))) (aNil))) (eBin dIxD (eVar 0) (eC (.int 0))))
noncomputable def f__law_led_at : FnD := runF 5 m__law_led_at
noncomputable def m__law_told : M Flo := sTry "TooGreat" [.s "great", .f "number"] (sRet (eTup (aCons (eC (.str "told")) (aCons (eCallV (tabL [("row_led", f_row_led), ("rows_plus", f_rows_plus)]) 0 (aCons (eVar 1) (aCons (eVar 2) (aNil)))) (aNil)))))
noncomputable def f__law_told : FnD := runF 4 m__law_told
noncomputable def m_law : M Flo := sSeq (sSet 1 (eFn f__law_source (aCons (eVar 0) (aNil)))) (sSeq (sSet 2 (eFn f__law_of (aCons (eVar 1) (aCons (eLst (aCons (eC (.int 2)) (aCons (eC (.int 2)) (aCons (eC (.int 3)) (aCons (eC (.int 4)) (aCons (eC (.int 5)) (aCons (eC (.int 6)) (aCons (eC (.int 8)) (aCons (eC (.int 9)) (aCons (eC (.int 12)) (aCons (eC (.int 30)) (aNil)))))))))))) (aNil))))) (sSeq (sPar [3, 4, 5] (aCons (eFn f__law_rule (aCons (eVar 1) (aCons (eVar 2) (aCons (eC (.int 5)) (aCons (eC (.int 12)) (aNil)))))) (aCons (eFn f__law_rule (aCons (eVar 1) (aCons (eVar 2) (aCons (eC (.int 6)) (aCons (eC (.int 12)) (aNil)))))) (aCons (eFn f__law_rule (aCons (eVar 1) (aCons (eVar 2) (aCons (eC (.int 4)) (aCons (eC (.int 12)) (aNil)))))) (aNil))))) (sSeq (sSet 6 (eFn f__law_of (aCons (eVar 1) (aCons (eLst (aCons (eC (.int 0)) (aCons (eC (.int 0)) (aCons (eBin dPow (eC (.int 10)) (eC (.int 9))) (aCons (eUn dNeg (eBin dPow (eC (.int 10)) (eC (.int 40)))) (aNil)))))) (aNil))))) (sSeq (sPar [4, 5] (aCons (eFn f_rule_moved (aCons (eVar 4) (aCons (eVar 6) (aNil)))) (aCons (eFn f_rule_moved (aCons (eVar 5) (aCons (eVar 6) (aNil)))) (aNil)))) (sSeq (sPar [7, 8] (aCons (eFn f_row_led (aCons (eVar 3) (aCons (eVar 4) (aNil)))) (aCons (eFn f_rows_plus (aCons (eVar 4) (aCons (eVar 5) (aNil)))) (aNil)))) (sSeq (sSet 9 (eComp [16] (iRange2 (aCons (eUn dNeg (eC (.int 26))) (aCons (eC (.int 27)) (aNil)))) (.nm 16) (bYes) (eBin dAdd (eVar 16) (eVar 6)))) (sSeq (sIf (tst (eBin dNe (eComp [16] (iSeq (eVar 9)) (.nm 16) (bYes) (eFn f_cell_of (aCons (eVar 7) (aCons (eVar 16) (aNil))))) (eComp [16] (iSeq (eVar 9)) (.nm 16) (bYes) (eFn f__law_led_at (aCons (eVar 3) (aCons (eVar 4) (aCons (eVar 16) (aNil)))))))) (sRet (eC (.bool false))) (sNx)) (sSeq (sIf (tst (eBin dNe (eCall dRepr (aCons (eVar 7) (aNil))) (eCall dRepr (aCons (eFn f__law_form (aCons (eVar 2) (aCons (eComp [16] (iSeq (eVar 9)) (.nm 16) (bYes) (eTup (aCons (eVar 16) (aCons (eFn f__law_led_at (aCons (eVar 3) (aCons (eVar 4) (aCons (eVar 16) (aNil))))) (aNil))))) (aNil)))) (aNil))))) (sRet (eC (.bool false))) (sNx)) (sSeq (sSet 10 (eComp [16] (iSeq (eVar 9)) (.nm 16) (bYes) (eBin dMod (eCall dInt (aCons (eBin dAdd (eFn f__law_at (aCons (eVar 4) (aCons (eVar 16) (aNil)))) (eFn f__law_at (aCons (eVar 5) (aCons (eVar 16) (aNil))))) (aNil))) (eVar 2)))) (sSeq (sIf (bOr (tst (eBin dNe (eComp [16] (iSeq (eVar 9)) (.nm 16) (bYes) (eFn f__law_at (aCons (eVar 8) (aCons (eVar 16) (aNil))))) (eVar 10))) (tst (eBin dNe (eFn f_cell_of (aCons (eVar 8) (aCons (eBin dAdd (eVar 6) (eC (.int 99))) (aNil)))) (eC (.int 0))))) (sRet (eC (.bool false))) (sNx)) (sSeq (sIf (tst (eBin dNe (eCall dRepr (aCons (eFn f_row_led (aCons (eVar 3) (aCons (eVar 8) (aNil)))) (aNil))) (eCall dRepr (aCons (eFn f_rows_plus (aCons (eVar 7) (aCons (eFn f_row_led (aCons (eVar 3) (aCons (eVar 5) (aNil)))) (aNil)))) (aNil))))) (sRet (eC (.bool false))) (sNx)) (sSeq (sIf (tst (eBin dNe (eCall dRepr (aCons (eLst (aCons (eFn f_row_led (aCons (eVar 3) (aCons (eTup (aCons (eVar 2) (aCons (eTup (aCons (eTup (aCons (eC (.int 0)) (aCons (eC (.int 1)) (aNil)))) (aNil))) (aNil)))) (aNil)))) (aCons (eFn f_row_led (aCons (eTup (aCons (eVar 2) (aCons (eTup (aNil)) (aNil)))) (aCons (eVar 4) (aNil)))) (aNil)))) (aNil))) (eCall dRepr (aCons (eLst (aCons (eVar 3) (aCons (eTup (aCons (eVar 2) (aCons (eTup (aNil)) (aNil)))) (aNil)))) (aNil))))) (sRet (eC (.bool false))) (sNx)) (sSeq (sSet 11 (eBin dSub (eFn f__law_pick (aCons (eVar 1) (aCons (eC (.int 20)) (aNil)))) (eC (.int 10)))) (sSeq (sIf (tst (eBin dNe (eCall dRepr (aCons (eFn f_row_led (aCons (eFn f_rule_turned (aCons (eVar 3) (aNil))) (aCons (eFn f_rule_turned (aCons (eVar 4) (aNil))) (aNil)))) (aNil))) (eCall dRepr (aCons (eFn f_rule_turned (aCons (eVar 7) (aNil))) (aNil))))) (sRet (eC (.bool false))) (sNx)) (sSeq (sIf (tst (eBin dNe (eCall dRepr (aCons (eFn f_row_led (aCons (eFn f_rule_moved (aCons (eVar 3) (aCons (eVar 11) (aNil)))) (aCons (eVar 4) (aNil)))) (aNil))) (eCall dRepr (aCons (eFn f_rule_moved (aCons (eVar 7) (aCons (eVar 11) (aNil)))) (aNil))))) (sRet (eC (.bool false))) (sNx)) (sSeq (sSet 12 (eFn f__law_of (aCons (eVar 1) (aCons (eComp [24] (iRange2 (aCons (eC (.int 2)) (aCons (eBin dAdd (eVar 2) (eC (.int 1))) (aNil)))) (.nm 24) (tst (eBin dEq (eBin dMod (eCall dInt (aCons (eVar 2) (aNil))) (eVar 24)) (eC (.int 0)))) (eVar 24)) (aNil))))) (sSeq (sIf (tst (eBin dNe (eCall dRepr (aCons (eFn f_row_led (aCons (eFn f_rule_split (aCons (eVar 3) (aCons (eVar 12) (aNil)))) (aCons (eFn f_rule_split (aCons (eVar 4) (aCons (eVar 12) (aNil)))) (aNil)))) (aNil))) (eCall dRepr (aCons (eFn f_rule_split (aCons (eVar 7) (aCons (eVar 12) (aNil)))) (aNil))))) (sRet (eC (.bool false))) (sNx)) (sSeq (sSet 13 (eBin dAdd (eC (.int 1)) (eFn f__law_pick (aCons (eVar 1) (aCons (eC (.int 7)) (aNil)))))) (sSeq (sSet 14 (eCall dTuple (aCons (eComp [25] (iRange1 (aCons (eVar 13) (aNil))) (.nm 25) (bYes) (eFn f__law_pick (aCons (eVar 1) (aCons (eVar 2) (aNil))))) (aNil)))) (sSeq (sSet 15 (eFn f_cells_led (aCons (eVar 3) (aCons (eVar 14) (aNil))))) (sSeq (sSet 10 (eLst (aNil))) (sSeq (sFor (iRange1 (aCons (eVar 13) (aNil))) (.nm 16) (sDrop (eMut fApp (eVar 10) (aCons (eBin dMod (eCall dInt (aCons (eCall dSum (aCons (eComp [24, 26] (iSeq (eBin dIxD (eVar 3) (eC (.int 1)))) (.tp [(.nm 24), (.nm 26)]) (bYes) (eBin dMul (eVar 26) (eBin dIxD (eVar 14) (eBin dMod (eCall dInt (aCons (eBin dSub (eVar 16) (eVar 24)) (aNil))) (eVar 13))))) (aNil))) (aNil))) (eVar 2)) (aNil))))) (sSeq (sIf (bOr (tst (eBin dNe (eCall dRepr (aCons (eVar 15) (aNil))) (eCall dRepr (aCons (eCall dTuple (aCons (eVar 10) (aNil))) (aNil))))) (tst (eBin dNe (eCall dRepr (aCons (eFn f_cells_led (aCons (eVar 3) (aCons (eBin dMul (eVar 14) (eC (.int 2))) (aNil)))) (aNil))) (eCall dRepr (aCons (eBin dMul (eVar 15) (eC (.int 2))) (aNil)))))) (sRet (eC (.bool false))) (sNx)) (sSeq (sSet 17 (eComp [27, 28] (iEnum (aCons (eVar 14) (aNil))) (.tp [(.nm 27), (.nm 28)]) (tst (eBin dNe (eVar 28) (eC (.int 0)))) (eVar 27))) (sSeq (sIf (tst (eBin dNe (eCall dRepr (aCons (eFn f_first_lit (aCons (eVar 14) (aNil))) (aNil))) (eCall dRepr (aCons (eIf (tst (eBin dNe (eVar 17) (eLst (aNil)))) (eBin dIxD (eVar 17) (eC (.int 0))) (eC .none)) (aNil))))) (sRet (eC (.bool false))) (sNx)) (sSeq (sSet 18 (eBin dSub (eC (.int 399)) (eFn f__law_pick (aCons (eVar 1) (aCons (eC (.int 3)) (aNil)))))) (sSeq (sPar [19, 20] (aCons (eTup (aCons (eVar 2) (aCons (eTup (aCons (eTup (aCons (eC (.int 0)) (aCons (eC (.int 1)) (aNil)))) (aCons (eTup (aCons (eVar 18) (aCons (eC (.int 1)) (aNil)))) (aNil)))) (aNil)))) (aCons (eFn f__law_pick (aCons (eVar 1) (aCons (eC (.int 4)) (aNil)))) (aNil)))) (sSeq (sSet 21 (eFn f__law_form (aCons (eVar 2) (aCons (eLst (aCons (eTup (aCons (eC (.int 0)) (aCons (eC (.int 1)) (aNil)))) (aCons (eTup (aCons (eVar 20) (aCons (eC (.int 1)) (aNil)))) (aNil)))) (aNil))))) (sSeq (sSet 10 (eFn f__law_form (aCons (eVar 2) (aCons (eLst (aCons (eTup (aCons (eC (.int 0)) (aCons (eC (.int 1)) (aNil)))) (aCons (eTup (aCons (eVar 20) (aCons (eC (.int 1)) (aNil)))) (aCons (eTup (aCons (eVar 18) (aCons (eC (.int 1)) (aNil)))) (aCons (eTup (aCons (eBin dAdd (eVar 18) (eVar 20)) (aCons (eC (.int 1)) (aNil)))) (aNil)))))) (aNil))))) (sSeq (sSet 22 (eAnd (eBin dNe (eBin dIxD (eVar 10) (eC (.int 1))) (eTup (aNil))) (eBin dGt (eBin dSub (eBin dIxD (eBin dIxD (eBin dIxD (eVar 10) (eC (.int 1))) (eUn dNeg (eC (.int 1)))) (eC (.int 0))) (eBin dIxD (eBin dIxD (eBin dIxD (eVar 10) (eC (.int 1))) (eC (.int 0))) (eC (.int 0)))) (eC (.int 399))))) (sSeq (sIf (tst (eBin dNe (eCall dRepr (aCons (eFn f__law_told (aCons (eC (fnD "row_led")) (aCons (eVar 21) (aCons (eVar 19) (aNil))))) (aNil))) (eCall dRepr (aCons (eIf (tst (eVar 22)) (eTup (aCons (eC (.str "great")) (aCons (eC (.int 0)) (aNil)))) (eTup (aCons (eC (.str "told")) (aCons (eVar 10) (aNil))))) (aNil))))) (sRet (eC (.bool false))) (sNx)) (sSeq (sSet 23 (eBin dAdd (eC (.int 398)) (eFn f__law_pick (aCons (eVar 1) (aCons (eC (.int 4)) (aNil)))))) (sSeq (sSet 10 (eIf (tst (eBin dLt (eVar 23) (eC (.int 400)))) (eTup (aCons (eC (.str "told")) (aCons (eTup (aCons (eVar 2) (aCons (eTup (aCons (eTup (aCons (eC (.int 0)) (aCons (eC (.int 1)) (aNil)))) (aCons (eTup (aCons (eVar 23) (aCons (eC (.int 1)) (aNil)))) (aNil)))) (aNil)))) (aNil)))) (eTup (aCons (eC (.str "great")) (aCons (eC (.int 0)) (aNil)))))) (sSeq (sIf (tst (eBin dNe (eCall dRepr (aCons (eFn f__law_told (aCons (eC (fnD "rows_plus")) (aCons (eTup (aCons (eVar 2) (aCons (eTup (aCons (eTup (aCons (eC (.int 0)) (aCons (eC (.int 1)) (aNil)))) (aNil))) (aNil)))) (aCons (eTup (aCons (eVar 2) (aCons (eTup (aCons (eTup (aCons (eVar 23) (aCons (eC (.int 1)) (aNil)))) (aNil))) (aNil)))) (aNil))))) (aNil))) (eCall dRepr (aCons (eVar 10) (aNil))))) (sRet (eC (.bool false))) (sNx)) (sRet (eAnd (eBin dEq (eFn f_span_of (aCons (eVar 19) (aNil))) (eBin dAdd (eVar 18) (eC (.int 1)))) (eBin dEq (eCall dRepr (aCons (eFn f_rule_told (aCons (eVar 2) (aCons (eLst (aCons (eTup (aCons (eC (.int 3)) (aCons (eBin dAdd (eVar 2) (eC (.int 1))) (aNil)))) (aCons (eTup (aCons (eC (.int 3)) (aCons (eUn dNeg (eC (.int 1))) (aNil)))) (aNil)))) (aNil)))) (aNil))) (eCall dRepr (aCons (eTup (aCons (eVar 2) (aCons (eTup (aNil)) (aNil)))) (aNil))))))))))))))))))))))))))))))))))))))))
noncomputable def f_law : FnD := runF 29 m_law
end Law_k14

namespace Law_k14
open PySem PySem.Spec PyProof.Rows L2 Rf
theorem lform_ok {m : Int} (hm : 0 < m) {T : List Pr} (hT : T.length < sizeLine) {d : Dt} (hd : d = .list (T.map pT) ∨ d = .tuple (T.map pT)) (am : Option Src) :
    f__law_form [.int m, d] am = .ret (.st (ruD m (told m T))) am := by
  unfold f__law_form m__law_form
  rw [runF_out]
  rcases hd with rfl | rfl <;> (
    simp
    refine for_go (f := pT) (P := fun r => out r = _) (fun pre s => ∃ a b, s = ⟨[.fz (.int m), .fz _, .ow (.dict ((dictA (· % m) pre).map kT)), a, b], am⟩) ⟨_, _, rfl⟩ ?_ ?_
    · rintro p x q s hT' ⟨a, b, rfl⟩
      have hl := length_dictA (· % m) p
      have : p.length < sizeLine := by rw [hT'] at hT; simp at hT; omega
      refine ⟨_, by simp [pT]; rfl, _, .inl ?_, .fz (.int x.1), .fz (.int x.2), rfl⟩
      rw [dictA_snoc]
      unfold accD
      cases hg : getI (dictA (· % m) p) x.1 with
      | none => simp [hg, hm, show (dictA (· % m) p).length < sizeLine by omega]
      | some v => simp [hg, hm, show (dictA (· % m) p).length < sizeLine by omega]
    · rintro s' ⟨a, b, rfl⟩
      have hl := length_dictA (· % m) T
      simp
      rw [compL_map (f := PyData.int) (g := fun k => pT (k, cf T k % m)) (p := fun k => !decide (cf T k % m = 0)) _ [] (fun k hk => ?_) (by simp [length_srtI]; omega)]
      · simp [told, ruD]
      · obtain ⟨v, hv⟩ := getI_some (mem_srtI.mp hk)
        have ev : cf T k % m = v := by rw [← val_mod, hv]; rfl
        refine ⟨_, by simp; rfl, by simp [hv, ev], fun h => ⟨.st (pT (k, cf T k % m)), by simp [hv, ev, pT], rfl⟩, by simp⟩)
theorem lat_ok {m p : Int} {F : List Pr} (hF : Sorted F) (am : Option Src) : f__law_at [ruD m F, .int p] am = .ret (.st (.int (cf F p))) am := by
  unfold f__law_at m__law_at
  rw [runF_out]
  have := get_pairs hF p
  simp [dDict_tT]
  cases e : getI (foldP F) p with
  | none => rw [e] at this; simp at this; simp [e, this]
  | some v => rw [e] at this; simp at this; simp [e, this]
theorem lled_ok {m m2 p : Int} (hm : 0 < m) {A B : List Pr} (hs : Small A) (hl : A.length ≤ sizeLine) (hB : Sorted B) (am : Option Src) :
    f__law_led_at [ruD m A, ruD m2 B, .int p] am = .ret (.st (.int (cf (prodL A B) p % m))) am := by
  unfold f__law_led_at m__law_led_at
  rw [runF_out]
  simp
  rw [compL_all (f := pT) (g := fun x => PyData.int (x.2 * cf B (p - x.1))) A (fun x hx => ⟨_, by simp [pT]; rfl, ⟨.st (.int (x.2 * cf B (p - x.1))), by simp [lat_ok hB, mulOk_left (hs x hx)], rfl⟩, by simp⟩) hl]
  have e : (A.map fun x : Pr => x.2 * cf B (p - x.1)).sum = cf (prodL A B) p := by rw [cf_prod]; rfl
  simp [dSum_i, e, hm]
structure Drawn (m wide : Int) (many : Nat) (F : List Pr) : Prop where
  form : Form m F
  near : Within (-wide) wide F
  few : F.length ≤ many
def IsRule (m wide : Int) (many : Nat) (x : FR) : Prop := ∃ (F : List Pr) (src : Src), x = .ret (.st (ruD m F)) (some src) ∧ Drawn m wide many F
theorem lrule_ok {m wide : Int} {many : Nat} (hm : 2 ≤ m) (hm2 : m ≤ 30) (hw : 1 ≤ wide) (hw2 : wide ≤ 100) (hk : many ≤ 100) (src : Src) : IsRule m wide many (f__law_rule [srcD, .int m, .int (many : Nat), .int wide] (some src)) := by
  unfold f__law_rule m__law_rule
  rw [runF_out]
  have hz := size_big
  obtain ⟨r, src1, e1, a0, a1⟩ := pick_ok (many := (many : Int) + 1) (.inl (by omega)) src
  have hrg : rgOk r := by unfold rgOk; omega
  have m1 : MulOk 2 wide := mulOk_left (by omega)
  have m2 : MulOk 2 m := mulOk_left (by omega)
  simp [e1, hrg]
  unfold rangeD
  refine for_gx (f := fun i : Nat => PyData.int (0 + (i : Int))) (P := fun r => IsRule m wide many (out r)) (fun pre s => ∃ (T : List Pr) (a : Rf.Slot) (src : Src), Within (-wide) wide T ∧ T.length = pre.length ∧ s = ⟨[.fz srcD, .fz (.int m), .fz (.int (many : Nat)), .fz (.int wide), .ow (.list (T.map pT)), a], some src⟩) ⟨[], .no, src1, by simp [Rf.Within], rfl, by simp⟩ ?_ ?_
  · rintro p x q s hp ⟨T, a, src, hT, hTl, rfl⟩
    have hpl : p.length < many + 1 := by
      have := congrArg List.length hp
      simp at this
      omega
    obtain ⟨r5, src5, e5, b0, b1⟩ := pick_ok (many := 2 * wide + 1) (.inl (by omega)) src
    obtain ⟨r6, src6, e6, c0, c1⟩ := pick_ok (many := 2 * m) (.inl (by omega)) src5
    refine ⟨_, by simp; rfl, goes_of (s := ⟨[.fz srcD, .fz (.int m), .fz (.int (many : Nat)), .fz (.int wide), .ow (.list ((T ++ [(r5 - wide, r6)]).map pT)), .fz (.int (0 + (x : Int)))], some src6⟩) ?_ ⟨T ++ [(r5 - wide, r6)], _, src6, fun y hy => ?_, by simp [hTl], rfl⟩⟩
    · simp [e5, e6, m1, m2, show T.length < sizeLine by omega, pT]
    · rcases List.mem_append.mp hy with h | h
      · exact hT y h
      · have ey : y = (r5 - wide, r6) := by simpa using h
        rw [ey]
        show -wide ≤ r5 - wide ∧ r5 - wide ≤ wide
        omega
  · rintro s' ⟨T, a, src2, hT, hTl, rfl⟩
    rw [List.length_range] at hTl
    have hf := lform_ok (m := m) (by omega) (T := T) (by omega) (.inl rfl) (some src2)
    simp [hf]
    exact ⟨told m T, src2, rfl, told_form (by omega) T, hT.told, by have := told_length m T; omega⟩
def toldD (m : Int) (F : List Pr) : Dt := if spanL F ≤ 400 then .tuple [.str "told", ruD m F] else .tuple [.str "great", .int 0]
theorem ltold_led {m m2 : Int} (hm : 0 < m) {A B : List Pr} (hs : Small A) (hl : A.length * B.length < sizeLine) (am : Option Src) :
    f__law_told [fnD "row_led", ruD m A, ruD m2 B] am = .ret (.st (toldD m (told m (prodL A B)))) am := by
  unfold f__law_told m__law_told
  rw [runF_out]
  unfold toldD
  by_cases hsp : spanL (told m (prodL A B)) ≤ 400
  · rw [if_pos hsp]
    simp [sTry, eCallV, tabL, List.lookup, led_ok hm hs hl hsp]
  · rw [if_neg hsp]
    simp [sTry, eCallV, tabL, List.lookup, led_ex hm hs hl (show 400 < spanL (told m (prodL A B)) by omega), exGreat, hiDs, hiD, flatD]
theorem ltold_plus {m m2 : Int} (hm : 0 < m) {A B : List Pr} (hl : A.length + B.length < sizeLine) (am : Option Src) :
    f__law_told [fnD "rows_plus", ruD m A, ruD m2 B] am = .ret (.st (toldD m (told m (A ++ B)))) am := by
  have hne : (Str.ofString "rows_plus" == Str.ofString "row_led") = false := by decide +kernel
  unfold f__law_told m__law_told
  rw [runF_out]
  unfold toldD
  by_cases hsp : spanL (told m (A ++ B)) ≤ 400
  · rw [if_pos hsp]
    simp [sTry, eCallV, tabL, List.lookup, hne, plus_ok hm hl hsp]
  · rw [if_neg hsp]
    simp [sTry, eCallV, tabL, List.lookup, hne, plus_ex hm hl (show 400 < spanL (told m (A ++ B)) by omega), exGreat, hiDs, hiD, flatD]
theorem repr_told {m : Int} {F : List Pr} (hm : m.natAbs < 10 ^ 200) (hF : Fine F) : dRepr [toldD m F] = some (.st (.str (toldD m F).shown)) := by
  unfold toldD
  split
  · refine repr_tupS (fun x hx => ?_) (by simp)
    simp at hx
    rcases hx with rfl | rfl
    · exact .str (by decide +kernel)
    · exact (Wr.ru hm hF).S
  · refine repr_tupS (fun x hx => ?_) (by simp)
    simp at hx
    rcases hx with rfl | rfl
    · exact .str (by decide +kernel)
    · exact .int (by decide)
end Law_k14

namespace Law_k14
open PySem PySem.Spec PyProof.Rows L2 Rf
structure Ok14 (F : List Pr) : Prop where
  few : F.length ≤ 400
  low : ∀ x ∈ F, x.1.natAbs < 10 ^ 100 ∧ x.2.natAbs < 10 ^ 100
theorem Ok14.fine {F : List Pr} (h : Ok14 F) : Fine F := ⟨by have := h.few; omega, fun x hx => by
  have := h.low x hx
  have h2 : (10 : Nat) ^ 100 ≤ 10 ^ 200 := Nat.pow_le_pow_right (by decide) (by decide)
  omega⟩
theorem ok14_of {m lo hi : Int} {F : List Pr} (h : Form m F) (hm : m ≤ 100) (w : Within lo hi F) (h1 : hi - lo ≤ 390) (h2 : -(10 ^ 50) ≤ lo) (h3 : hi ≤ 10 ^ 50) : Ok14 F := ⟨by
  rcases sorted_length h.1 w with e | e
  · omega
  · subst e; simp, fun x hx => by
  have a1 := w x hx
  have a2 := h.2 x hx
  have a3 : (10 : Int) ^ 50 + 1000 < 10 ^ 100 := by decide
  omega⟩
theorem law_true_of {ns : List Int} (hl : ns.length ≤ 63) : ∃ am, f_law [scrD (ns.map PyData.int)] none = .ret (.st (.bool true)) am := by
  obtain ⟨src0, e0⟩ := source_ok hl
  obtain ⟨x2, hx2, src2, e2⟩ := of_ok (xs := [2, 2, 3, 4, 5, 6, 8, 9, 12, 30].map PyData.int) (by simp) (by simp) src0
  have : ∃ m : Int, x2 = .int m ∧ 2 ≤ m ∧ m ≤ 30 := by
    obtain ⟨m, hm, rfl⟩ := List.mem_map.mp hx2
    refine ⟨m, rfl, ?_⟩
    simp at hm
    omega
  obtain ⟨m, rfl, hm, hm2⟩ := this
  obtain ⟨F, src3, e3, dF⟩ := lrule_ok (m := m) (wide := 12) (many := 5) hm hm2 (by omega) (by omega) (by omega) src2
  obtain ⟨R0, src4, e4, dR⟩ := lrule_ok (m := m) (wide := 12) (many := 6) hm hm2 (by omega) (by omega) (by omega) src3
  obtain ⟨O0, src5, e5, dO⟩ := lrule_ok (m := m) (wide := 12) (many := 4) hm hm2 (by omega) (by omega) (by omega) src4
  obtain ⟨x6, hx6, src6, e6⟩ := of_ok (xs := [0, 0, 10 ^ 9, -10 ^ 40].map PyData.int) (by simp) (by simp) src5
  have : ∃ far : Int, x6 = .int far ∧ -(10 ^ 40) ≤ far ∧ far ≤ 10 ^ 40 := by
    obtain ⟨m, hm, rfl⟩ := List.mem_map.mp hx6
    refine ⟨m, rfl, ?_⟩
    simp at hm
    rcases hm with rfl | rfl | rfl <;> decide
  obtain ⟨far, rfl, hf1, hf2⟩ := this
  have h40 : (10 : Int) ^ 40 + 10000 ≤ 10 ^ 50 := by decide
  have hz := size_big
  generalize hR : (R0.map fun x => (x.1 + far, x.2)) = R
  generalize hO : (O0.map fun x => (x.1 + far, x.2)) = O
  have hFF := dF.form
  have hRF : Form m R := hR ▸ move_form dR.form
  have hOF : Form m O := hO ▸ move_form dO.form
  have hFw : Within (-12) 12 F := dF.near
  have hRw : Within (far - 12) (far + 12) R := fun x hx => by
    rw [← hR] at hx
    obtain ⟨y, hy, rfl⟩ := List.mem_map.mp hx
    have := dR.near y hy
    show far - 12 ≤ y.1 + far ∧ y.1 + far ≤ far + 12
    omega
  have hOw : Within (far - 12) (far + 12) O := fun x hx => by
    rw [← hO] at hx
    obtain ⟨y, hy, rfl⟩ := List.mem_map.mp hx
    have := dO.near y hy
    show far - 12 ≤ y.1 + far ∧ y.1 + far ≤ far + 12
    omega
  have hFl := dF.few
  have hRl : R.length ≤ 6 := by rw [← hR, List.length_map]; exact dR.few
  have hOl : O.length ≤ 4 := by rw [← hO, List.length_map]; exact dO.few
  have hmR := fun am => moved_ok (m := m) (a := far) (A := R0) (size_lt (by have := dR.few; omega)) am
  have hmO := fun am => moved_ok (m := m) (a := far) (A := O0) (size_lt (by have := dO.few; omega)) am
  rw [hR] at hmR
  rw [hO] at hmO
  generalize hL : told m (prodL F R) = L
  generalize hB : told m (R ++ O) = Bo
  have hLF : Form m L := hL ▸ told_form (by omega) _
  have hBF : Form m Bo := hB ▸ told_form (by omega) _
  have hpw : Within (far - 24) (far + 24) (prodL F R) := (hFw.prod hRw).mono (by omega) (by omega)
  have hLw : Within (far - 24) (far + 24) L := hL ▸ hpw.told
  have hBw : Within (far - 12) (far + 12) Bo := hB ▸ (hRw.append hOw).told
  have hpl : F.length * R.length < sizeLine := size_lt (Nat.lt_of_le_of_lt (Nat.mul_le_mul hFl hRl) (by decide))
  have hLo : Ok14 L := ok14_of hLF (by omega) hLw (by omega) (by omega) (by omega)
  have hBo : Ok14 Bo := ok14_of hBF (by omega) hBw (by omega) (by omega) (by omega)
  have hFo : Ok14 F := ok14_of hFF (by omega) hFw (by omega) (by decide) (by decide)
  have hBl : Bo.length ≤ 10 := by
    have := told_length m (R ++ O)
    rw [hB, List.length_append] at this
    omega
  have hsm : ∀ d : Int, 0 < d → d ≤ 100 → d.natAbs < 10 ^ 200 := fun d h1 h2 => by
    have h3 : (1000 : Nat) < 10 ^ 200 := by decide
    omega
  have hrD : ∀ (d : Int) (F : List Pr), 0 < d → d ≤ 100 → Ok14 F → dRepr [ruD d F] = some (.st (.str (ruD d F).shown)) := fun d F h1 h2 h3 => repr_ru (hsm d h1 h2) h3.fine
  have hr2 : ∀ (d : Int) (A B : List Pr), 0 < d → d ≤ 100 → Ok14 A → Ok14 B → dRepr [.list [ruD d A, ruD d B]] = some (.st (.str (PyData.shown (.list [ruD d A, ruD d B])))) := fun d A B h1 h2 hA hB => repr_list (fun x hx => by
    simp at hx
    rcases hx with rfl | rfl
    · exact Wr.ru (hsm d h1 h2) hA.fine
    · exact Wr.ru (hsm d h1 h2) hB.fine) (by simp)
  have hsp : ∀ {lo hi : Int} {G : List Pr}, Within lo hi G → lo ≤ hi → hi - lo ≤ 399 → spanL G ≤ 400 := fun w h1 h2 => by
    have := span_within w (by omega)
    omega
  have hFs : Small F := hFF.small (by omega)
  have hled1 := fun am => led_ok (m := m) (m2 := m) (by omega) hFs hpl (by rw [hL]; exact hsp hLw (by omega) (by omega)) am
  have hplus1 := fun am => plus_ok (m := m) (m2 := m) (by omega) (A := R) (B := O) (size_lt (by omega)) (by rw [hB]; exact hsp hBw (by omega) (by omega)) am
  rw [hL] at hled1
  rw [hB] at hplus1
  have hcL := fun p am => cell_ok (m := m) (p := p) hLF.1 am
  have hlL := fun p am => lled_ok (m := m) (m2 := m) (p := p) (by omega) hFs (size_le (by omega)) hRF.1 am
  have hcfL : ∀ p, cf (prodL F R) p % m = cf L p := fun p => by rw [← hL, cf_told]
  simp only [hcfL] at hlL
  have hcB := fun p am => cell_ok (m := m) (p := p) hBF.1 am
  have haB := fun p am => lat_ok (m := m) (p := p) hBF.1 am
  have haR := fun p am => lat_ok (m := m) (p := p) hRF.1 am
  have haO := fun p am => lat_ok (m := m) (p := p) hOF.1 am
  have hcfB : ∀ p, (cf R p + cf O p) % m = cf Bo p := fun p => by rw [← hB, cf_told, cf_append]
  have hp1 : PowOk 10 9 := by unfold PowOk; decide
  have hp2 : PowOk 10 40 := by unfold PowOk; decide
  have hrg1 : rgOk (-26) := by unfold rgOk; omega
  have hrg2 : rgOk 27 := by unfold rgOk; omega
  unfold f_law m_law
  rw [runF_out]
  simp at e2 e3 e4 e5 e6
  simp [e0, e2, e3, e4, e5, e6, hp1, hp2, hmR, hmO, hled1, hplus1, hrg1, hrg2]
  unfold rangeD
  rw [compL_all (f := fun i : Nat => PyData.int (-26 + (i : Int))) (g := fun i : Nat => PyData.int (-26 + (i : Int) + far)) (List.range 53) (fun i hi => ⟨_, by simp; rfl, ⟨.st (.int (-26 + (i : Int) + far)), by simp, rfl⟩, by simp⟩) (by simp)]
  simp
  rw [compL_all (f := fun i : Nat => PyData.int (-26 + (i : Int) + far)) (g := fun i : Nat => PyData.int (cf L (-26 + (i : Int) + far))) (List.range 53) (fun i hi => ⟨_, by simp; rfl, ⟨.st (.int (cf L (-26 + (i : Int) + far))), by simp [hcL], rfl⟩, by simp⟩) (by simp)]
  simp
  rw [compL_all (f := fun i : Nat => PyData.int (-26 + (i : Int) + far)) (g := fun i : Nat => PyData.int (cf L (-26 + (i : Int) + far))) (List.range 53) (fun i hi => ⟨_, by simp; rfl, ⟨.st (.int (cf L (-26 + (i : Int) + far))), by simp [hlL], rfl⟩, by simp⟩) (by simp)]
  simp [dNe_same]
  have hlook : told m ((List.range 53).map fun i : Nat => (-26 + (i : Int) + far, cf L (-26 + (i : Int) + far))) = L := by
    have e : (fun i : Nat => (-26 + (i : Int) + far, cf L (-26 + (i : Int) + far))) = fun i : Nat => ((far - 26) + (i : Int), cf L ((far - 26) + (i : Int))) := by
      funext i
      rw [show -26 + (i : Int) + far = (far - 26) + (i : Int) by omega]
    rw [e]
    exact told_looks hLF (hLw.mono (by omega) (by omega))
  have hfl := fun am => lform_ok (m := m) (by omega) (T := (List.range 53).map fun i : Nat => (-26 + (i : Int) + far, cf L (-26 + (i : Int) + far))) (by simp) (.inl rfl) am
  rw [hlook, List.map_map] at hfl
  have e7 : (pT ∘ fun i : Nat => (-26 + (i : Int) + far, cf L (-26 + (i : Int) + far))) = fun i : Nat => pT (-26 + (i : Int) + far, cf L (-26 + (i : Int) + far)) := rfl
  rw [e7] at hfl
  have hrL := hrD m L (by omega) (by omega) hLo
  simp [hrL]
  rw [compL_all (f := fun i : Nat => PyData.int (-26 + (i : Int) + far)) (g := fun i : Nat => pT (-26 + (i : Int) + far, cf L (-26 + (i : Int) + far))) (List.range 53) (fun i hi => ⟨_, by simp; rfl, ⟨.st (pT (-26 + (i : Int) + far, cf L (-26 + (i : Int) + far))), by simp [hlL, pT], rfl⟩, by simp⟩) (by simp)]
  simp [hfl, hrL]
  rw [compL_all (f := fun i : Nat => PyData.int (-26 + (i : Int) + far)) (g := fun i : Nat => PyData.int (cf Bo (-26 + (i : Int) + far))) (List.range 53) (fun i hi => ⟨_, by simp; rfl, ⟨.st (.int (cf Bo (-26 + (i : Int) + far))), by simp [haR, haO, hcfB, show 0 < m by omega], rfl⟩, by simp⟩) (by simp)]
  simp
  rw [compL_all (f := fun i : Nat => PyData.int (-26 + (i : Int) + far)) (g := fun i : Nat => PyData.int (cf Bo (-26 + (i : Int) + far))) (List.range 53) (fun i hi => ⟨_, by simp; rfl, ⟨.st (.int (cf Bo (-26 + (i : Int) + far))), by simp [haB], rfl⟩, by simp⟩) (by simp)]
  have hout : cf Bo (far + 99) = 0 := within_zero hBw (by omega)
  have hplB : F.length * Bo.length < sizeLine := size_lt (Nat.lt_of_le_of_lt (Nat.mul_le_mul hFl hBl) (by decide))
  have hplO : F.length * O.length < sizeLine := size_lt (Nat.lt_of_le_of_lt (Nat.mul_le_mul hFl hOl) (by decide))
  generalize hC : told m (prodL F Bo) = C
  generalize hD : told m (prodL F O) = D
  have hCF : Form m C := hC ▸ told_form (by omega) _
  have hDF : Form m D := hD ▸ told_form (by omega) _
  have hCw : Within (far - 24) (far + 24) C := hC ▸ ((hFw.prod hBw).mono (by omega) (by omega)).told
  have hDw : Within (far - 24) (far + 24) D := hD ▸ ((hFw.prod hOw).mono (by omega) (by omega)).told
  have hCo : Ok14 C := ok14_of hCF (by omega) hCw (by omega) (by omega) (by omega)
  have hled2 := fun am => led_ok (m := m) (m2 := m) (by omega) hFs hplB (by rw [hC]; exact hsp hCw (by omega) (by omega)) am
  have hled3 := fun am => led_ok (m := m) (m2 := m) (by omega) hFs hplO (by rw [hD]; exact hsp hDw (by omega) (by omega)) am
  have hCD : told m (L ++ D) = C := by
    rw [← hC, ← hL, ← hD, ← hB]
    refine told_congr fun p => ?_
    rw [cf_append, cf_told, cf_told, ((eqm_told m (R ++ O)).prod_right F) p, cf_prod_append, ← Int.add_emod]
  have hDl : D.length ≤ 400 := (ok14_of hDF (by omega) hDw (by omega) (by omega) (by omega)).few
  have hplus2 := fun am => plus_ok (m := m) (m2 := m) (by omega) (A := L) (B := D) (size_lt (by have := hLo.few; omega)) (by rw [hCD]; exact hsp hCw (by omega) (by omega)) am
  rw [hC] at hled2
  rw [hD] at hled3
  rw [hCD] at hplus2
  have hrC := hrD m C (by omega) (by omega) hCo
  have hru1 : (PyData.tuple [.int m, .tuple [.tuple [.int 0, .int 1]]]) = ruD m [(0, 1)] := rfl
  have hru0 : (PyData.tuple [.int m, .tuple []]) = ruD m [] := rfl
  have hF1 : told m (prodL F [(0, 1)]) = F := (Eqm.told (eqm_one' m F)).trans (told_self hFF)
  have hn0 : told m (prodL [] R) = [] := rfl
  have hled4 := fun am => led_ok (m := m) (m2 := m) (by omega) hFs (B := [(0, 1)]) (size_lt (by simp; omega)) (by rw [hF1]; exact hsp hFw (by omega) (by omega)) am
  have hled5 := fun am => led_ok (m := m) (m2 := m) (by omega) (A := []) (B := R) (fun x hx => by simp at hx) (size_lt (by simp)) (by rw [hn0]; simp [spanL]) am
  rw [hF1] at hled4
  rw [hn0] at hled5
  have h00 : Ok14 [] := ⟨by simp, fun x hx => by simp at hx⟩
  have hr20 := hr2 m F [] (by omega) (by omega) hFo h00
  obtain ⟨r7, src7, e8, a70, a71⟩ := pick_ok (many := 20) (.inl (by omega)) src6
  generalize hTF : told m (F.map fun x => (-x.1, x.2)) = TF
  generalize hTR : told m (R.map fun x => (-x.1, x.2)) = TR
  generalize hTL : told m (L.map fun x => (-x.1, x.2)) = TL
  have hneg : ∀ {lo hi : Int} {G : List Pr}, Within lo hi G → Within (-hi) (-lo) (told m (G.map fun x => (-x.1, x.2))) := fun w => Within.told fun x hx => by
    obtain ⟨y, hy, rfl⟩ := List.mem_map.mp hx
    have := w y hy
    constructor
    · show _ ≤ -y.1; omega
    · show -y.1 ≤ _; omega
  have hTFF : Form m TF := hTF ▸ told_form (by omega) _
  have hTRF : Form m TR := hTR ▸ told_form (by omega) _
  have hTLF : Form m TL := hTL ▸ told_form (by omega) _
  have hTFw := hTF ▸ hneg hFw
  have hTRw := hTR ▸ hneg hRw
  have hTLw := hTL ▸ hneg hLw
  have htF := fun am => turned_ok (m := m) (by omega) (A := F) (size_lt (by omega)) am
  have htR := fun am => turned_ok (m := m) (by omega) (A := R) (size_lt (by omega)) am
  have htL := fun am => turned_ok (m := m) (by omega) (A := L) (size_lt (by have := hLo.few; omega)) am
  rw [hTF] at htF
  rw [hTR] at htR
  rw [hTL] at htL
  have hTT : told m (prodL TF TR) = TL := by
    rw [← hTF, ← hTR, told_prod, prod_turn, told_turn, hL, hTL]
  have hTFl : TF.length ≤ 5 := by rw [← hTF]; exact Nat.le_trans (told_length m _) (by simpa using hFl)
  have hTRl : TR.length ≤ 6 := by rw [← hTR]; exact Nat.le_trans (told_length m _) (by simpa using hRl)
  have hTLo : Ok14 TL := ok14_of hTLF (by omega) hTLw (by omega) (by omega) (by omega)
  have hled6 := fun am => led_ok (m := m) (m2 := m) (by omega) (hTFF.small (by omega)) (B := TR) (size_lt (Nat.lt_of_le_of_lt (Nat.mul_le_mul hTFl hTRl) (by decide))) (by rw [hTT]; exact hsp hTLw (by omega) (by omega)) am
  rw [hTT] at hled6
  have hrTL := hrD m TL (by omega) (by omega) hTLo
  have hmF := fun am => moved_ok (m := m) (a := r7 - 10) (A := F) (size_lt (by omega)) am
  have hmL := fun am => moved_ok (m := m) (a := r7 - 10) (A := L) (size_lt (by have := hLo.few; omega)) am
  have hML : told m (prodL (F.map fun x => (x.1 + (r7 - 10), x.2)) R) = L.map fun x => (x.1 + (r7 - 10), x.2) := by
    rw [prod_moveL, told_move (by omega), hL]
  have hMLw : Within (far - 34) (far + 33) (L.map fun x => (x.1 + (r7 - 10), x.2)) := fun x hx => by
    obtain ⟨y, hy, rfl⟩ := List.mem_map.mp hx
    have := hLw y hy
    show far - 34 ≤ y.1 + (r7 - 10) ∧ y.1 + (r7 - 10) ≤ far + 33
    omega
  have hMLo : Ok14 (L.map fun x => (x.1 + (r7 - 10), x.2)) := ok14_of (move_form hLF) (by omega) hMLw (by omega) (by omega) (by omega)
  have hled7 := fun am => led_ok (m := m) (m2 := m) (by omega) ((move_form (a := r7 - 10) hFF).small (by omega)) (B := R) (size_lt (by rw [List.length_map]; exact Nat.lt_of_le_of_lt (Nat.mul_le_mul hFl hRl) (by decide))) (by rw [hML]; exact hsp hMLw (by omega) (by omega)) am
  rw [hML] at hled7
  have hrML := hrD m _ (by omega) (by omega) hMLo
  have hrg3 : rgOk 2 := by unfold rgOk; omega
  have hrg4 : rgOk (m + 1) := by unfold rgOk; omega
  simp [dNe_same, hcB, hout, hled2, hled3, hplus2, hrC, hru1, hru0, hled4, hled5, hr20, e8, htF, htR, htL, hled6, hrTL, hmF, hmL, hled7, hrML, hrg3, hrg4]
  rw [comp_divs (by decide) (by simp) (by simp) (by omega) (by omega)]
  have hdl := divs_few m
  have hdm := divs_self hm
  obtain ⟨yd, hyd, src8, e9⟩ := of_ok (xs := (divs m).map fun i : Nat => PyData.int (2 + (i : Int))) (fun h => by
    rw [List.map_eq_nil_iff] at h
    rw [h] at hdm
    cases hdm) (by rw [List.length_map]; omega) src7
  obtain ⟨j, hj, rfl⟩ := List.mem_map.mp hyd
  have hj1 := divs_le hj
  have hj2 := divs_dvd hj
  generalize hdd : (2 : Int) + (j : Int) = part at *
  have hpt : 2 ≤ part := by omega
  have hs1 := fun am => split_ok (m := m) (d := part) (by omega) (A := F) (size_lt (by omega)) am
  have hs2 := fun am => split_ok (m := m) (d := part) (by omega) (A := R) (size_lt (by omega)) am
  have hs3 := fun am => split_ok (m := m) (d := part) (by omega) (A := L) (size_lt (by have := hLo.few; omega)) am
  have hPL : told part (prodL (told part F) (told part R)) = told part L := by
    rw [told_prod, ← hL, told_part hj2]
  have hPLw : Within (far - 24) (far + 24) (told part L) := hLw.told
  have hPLo : Ok14 (told part L) := ok14_of (told_form (by omega) _) (by omega) hPLw (by omega) (by omega) (by omega)
  have hPF := told_length part F
  have hPR := told_length part R
  have hled8 := fun am => led_ok (m := part) (m2 := part) (by omega) ((told_form (m := part) (by omega) F).small (by omega)) (B := told part R) (size_lt (Nat.lt_of_le_of_lt (Nat.mul_le_mul (Nat.le_trans hPF hFl) (Nat.le_trans hPR hRl)) (by decide))) (by rw [hPL]; exact hsp hPLw (by omega) (by omega)) am
  rw [hPL] at hled8
  have hrPL := hrD part _ (by omega) (by omega) hPLo
  obtain ⟨r10, src9, e10, a100, a101⟩ := pick_ok (many := 7) (.inl (by omega)) src8
  obtain ⟨n, hn⟩ : ∃ n : Nat, 1 + r10 = n := ⟨(1 + r10).toNat, by omega⟩
  have hn1 : 1 ≤ n ∧ n ≤ 7 := by omega
  have hrg5 : rgOk (n : Int) := by unfold rgOk; omega
  simp [e9, hs1, hs2, hs3, hled8, hrPL, e10, hn, hrg5]
  unfold rangeD
  obtain ⟨acc, s', eC, cs, hcs, rfl, hcl, src10, rfl⟩ := comp_inv (own := [25]) (t := .nm 25) (tt := bYes) (te := eFn f__law_pick (aCons (eVar 1) (aCons (eVar 2) (aNil))))
    (f := fun i : Nat => PyData.int (0 + (i : Int))) (xs := List.range n) (s := ⟨[.fz (scrD (ns.map PyData.int)), .fz srcD, .fz (.int m), .fz (ruD m F), .fz (ruD m R), .fz (ruD m O), .fz (.int far), .fz (ruD m L), .fz (ruD m Bo), .fz (.list ((List.range 53).map fun i : Nat => PyData.int (-26 + (i : Int) + far))), .ow (.list ((List.range 53).map fun i : Nat => PyData.int (cf Bo (-26 + (i : Int) + far)))), .fz (.int (r7 - 10)), .fz (.int part), .fz (.int (n : Nat)), .no, .no, .no, .no, .no, .no, .no, .no, .no, .no, .no, .no, .no, .no, .no], some src9⟩)
    (fun pre acc s => ∃ cs : List Int, (∀ x ∈ cs, 0 ≤ x ∧ x < m) ∧ acc = cs.map PyData.int ∧ cs.length = pre.length ∧ ∃ src, s = ⟨[.fz (scrD (ns.map PyData.int)), .fz srcD, .fz (.int m), .fz (ruD m F), .fz (ruD m R), .fz (ruD m O), .fz (.int far), .fz (ruD m L), .fz (ruD m Bo), .fz (.list ((List.range 53).map fun i : Nat => PyData.int (-26 + (i : Int) + far))), .ow (.list ((List.range 53).map fun i : Nat => PyData.int (cf Bo (-26 + (i : Int) + far)))), .fz (.int (r7 - 10)), .fz (.int part), .fz (.int (n : Nat)), .no, .no, .no, .no, .no, .no, .no, .no, .no, .no, .no, .no, .no, .no, .no], some src⟩)
    ⟨[], by simp, rfl, rfl, src9, rfl⟩ (by
      rintro p x q acc s hp ⟨cs, hcs, rfl, hcl, src, rfl⟩
      obtain ⟨r, src', e, b0, b1⟩ := pick_ok (many := m) (.inl (by omega)) src
      refine ⟨_, _, _, by simp; rfl, rfl, fun h => absurd h (by decide), fun _ => ⟨.st (.int r), ⟨[.fz (scrD (ns.map PyData.int)), .fz srcD, .fz (.int m), .fz (ruD m F), .fz (ruD m R), .fz (ruD m O), .fz (.int far), .fz (ruD m L), .fz (ruD m Bo), .fz (.list ((List.range 53).map fun i : Nat => PyData.int (-26 + (i : Int) + far))), .ow (.list ((List.range 53).map fun i : Nat => PyData.int (cf Bo (-26 + (i : Int) + far)))), .fz (.int (r7 - 10)), .fz (.int part), .fz (.int (n : Nat)), .no, .no, .no, .no, .no, .no, .no, .no, .no, .no, .no, .fz (.int (0 + (x : Int))), .no, .no, .no], some src'⟩, .int r, _, ?_, rfl, cs ++ [r], fun y hy => ?_, by simp, by simp [hcl], src', by simp⟩⟩
      · simp [e]
      · rcases List.mem_append.mp hy with h | h
        · exact hcs y h
        · have ey : y = r := by simpa using h
          rw [ey]; omega) (by simp; omega)
  rw [eC]
  rw [List.length_range] at hcl
  have hcn : cs ≠ [] := fun h => by rw [h] at hcl; simp at hcl; omega
  have hcpos : 0 < cs.length := List.length_pos_iff.mpr hcn
  have hrd1 := fun am => round_ok (m := m) (by omega) hFs (size_lt (by omega)) hcn (by omega) am
  have hrd2 := fun am => round_ok (m := m) (by omega) hFs (size_lt (by omega)) (cs := cs ++ cs) (by simp [hcn]) (by rw [List.length_append]; omega) am
  rw [round_twice hcn] at hrd2
  have hccs : (cs ++ cs).map PyData.int = cs.map PyData.int ++ cs.map PyData.int := List.map_append
  rw [hccs] at hrd2
  have hcs2 : (List.replicate 2 (cs.map PyData.int)).flatten = cs.map PyData.int ++ cs.map PyData.int := by simp
  have hcl7 : cs.length ≤ 7 := by omega
  rw [← hcl]
  simp [hrd1]
  have hcnN : ¬ cs.length = 0 := by omega
  have hrgn : rgOk (cs.length : Int) := by unfold rgOk; omega
  simp [hrgn]
  unfold rangeD
  refine for_gx (f := fun i : Nat => PyData.int (0 + (i : Int))) (P := fun r => ∃ am, out r = .ret (.st (.bool true)) am) (fun pre s => ∃ a, s = ⟨[.fz (scrD (ns.map PyData.int)), .fz srcD, .fz (.int m), .fz (ruD m F), .fz (ruD m R), .fz (ruD m O), .fz (.int far), .fz (ruD m L), .fz (ruD m Bo), .fz (.list ((List.range 53).map fun i : Nat => PyData.int (-26 + (i : Int) + far))), .ow (.list (pre.map fun k : Nat => PyData.int (cycL F cs (k : Int) % m))), .fz (.int (r7 - 10)), .fz (.int part), .fz (.int (cs.length : Nat)), .fz (.tuple (cs.map PyData.int)), .fz (.tuple ((List.range cs.length).map fun k : Nat => PyData.int (cycL F cs (k : Int) % m))), a, .no, .no, .no, .no, .no, .no, .no, .no, .no, .no, .no, .no], some src10⟩) ⟨.no, by simp⟩ ?_ ?_
  · rintro p k q s hp ⟨a, rfl⟩
    have hpl : p.length < cs.length := by
      have := congrArg List.length hp
      simp at this
      omega
    refine ⟨_, by simp; rfl, goes_of (s := ⟨[.fz (scrD (ns.map PyData.int)), .fz srcD, .fz (.int m), .fz (ruD m F), .fz (ruD m R), .fz (ruD m O), .fz (.int far), .fz (ruD m L), .fz (ruD m Bo), .fz (.list ((List.range 53).map fun i : Nat => PyData.int (-26 + (i : Int) + far))), .ow (.list ((p ++ [k]).map fun k : Nat => PyData.int (cycL F cs (k : Int) % m))), .fz (.int (r7 - 10)), .fz (.int part), .fz (.int (cs.length : Nat)), .fz (.tuple (cs.map PyData.int)), .fz (.tuple ((List.range cs.length).map fun k : Nat => PyData.int (cycL F cs (k : Int) % m))), .fz (.int (0 + (k : Int))), .no, .no, .no, .no, .no, .no, .no, .no, .no, .no, .no, .no], some src10⟩) ?_ ⟨_, rfl⟩⟩
    simp
    rw [compL_all (f := pT) (g := fun x => PyData.int (x.2 * cyc cs ((k : Int) - x.1))) F (fun x hx => ⟨_, by simp [pT]; rfl, ⟨.st (.int (x.2 * cyc cs ((k : Int) - x.1))), by simp [hcpos, at_cyc hcn, mulOk_left (hFs x hx)], rfl⟩, by simp⟩) (size_le (by omega))]
    have hsum : (F.map fun x : Pr => x.2 * cyc cs ((k : Int) - x.1)).sum = cycL F cs k := rfl
    simp [dSum_i, hsum, show 0 < m by omega, show p.length < sizeLine by omega]
  rintro s' ⟨a, rfl⟩
  have hlen : ((List.range cs.length).map fun k : Nat => cycL F cs (k : Int) % m).length ≤ 10 := by simp; omega
  have hsmc : ∀ x ∈ ((List.range cs.length).map fun k : Nat => cycL F cs (k : Int) % m), x.natAbs < 10 ^ 200 := fun x hx => by
    obtain ⟨k, _, rfl⟩ := List.mem_map.mp hx
    have a1 := Int.emod_nonneg (cycL F cs (k : Int)) (show m ≠ 0 by omega)
    have a2 := Int.emod_lt_of_pos (cycL F cs (k : Int)) (show 0 < m by omega)
    have h3 : (1000 : Nat) < 10 ^ 200 := by decide
    generalize cycL F cs (k : Int) % m = v at a1 a2
    omega
  generalize hG : ((List.range cs.length).map fun k : Nat => cycL F cs (k : Int) % m) = G at hlen hsmc
  have hGm : ((List.range cs.length).map fun k : Nat => PyData.int (cycL F cs (k : Int) % m)) = G.map PyData.int := by rw [← hG, List.map_map]; rfl
  rw [hGm] at hrd2 ⊢
  have hGl : G.length = cs.length := by rw [← hG]; simp
  have hGn : G ≠ [] := fun h => by rw [h] at hGl; simp at hGl; omega
  have hrG := repr_ints hsmc (by omega)
  have hrGG := repr_ints (l := G ++ G) (fun x hx => by
    rcases List.mem_append.mp hx with h | h
    · exact hsmc x h
    · exact hsmc x h) (by rw [List.length_append]; omega)
  rw [List.map_append] at hrGG
  have hG2 : (List.replicate 2 (G.map PyData.int)).flatten = G.map PyData.int ++ G.map PyData.int := by simp
  simp [hrG, hcs2, hG2, hrd2, hrGG, hcn, hGn, show cs.length ≤ 1000 by omega, show G.length ≤ 1000 by omega, enum_ints]
  rw [compL_map (f := fun i : Nat => PyData.tuple [.int (i : Nat), .int (cs[i]?.getD 0)]) (g := fun i : Nat => PyData.int (i : Nat)) (p := fun i : Nat => !decide (cs[i]?.getD 0 = 0)) _ [] (fun i hi => ⟨_, by simp; rfl, by simp, fun _ => ⟨.st (.int (i : Nat)), by simp, rfl⟩, by simp⟩) (by simp; omega)]
  have hfst := fun am => first_ok (cs := cs) am
  simp only [List.getD_eq_getElem?_getD] at hfst
  have hhead : ((List.range cs.length).filter fun i : Nat => !decide (cs[i]?.getD 0 = 0)).head? = (List.range cs.length).find? fun i : Nat => !decide (cs[i]?.getD 0 = 0) := List.head?_filter
  have hfl2 : ((List.range cs.length).filter fun i : Nat => !decide (cs[i]?.getD 0 = 0)).length ≤ cs.length := Nat.le_trans (List.length_filter_le _ _) (by simp)
  generalize hlit : ((List.range cs.length).filter fun i : Nat => !decide (cs[i]?.getD 0 = 0)) = lit at hhead hfl2 ⊢
  rw [← hhead] at hfst
  have hlg : ∀ i ∈ lit, i < 10 := fun i hi => by
    rw [← hlit, List.mem_filter, List.mem_range] at hi
    omega
  have hlr : ∀ i ∈ lit, dRepr [PyData.int (i : Nat)] = some (.st (.str (toString (i : Int)))) := fun i hi => by
    have h1 := hlg i hi
    have h2 : ((i : Nat) : Int).natAbs.log2 < 1920 := Nat.lt_of_le_of_lt (Nat.log2_le_self _) (by omega)
    unfold dRepr
    simp only [h2, if_true]
  have hlr0 : dRepr [PyData.none] = some (.st (.str "None")) := rfl
  obtain ⟨r11, src11, e11, a110, a111⟩ := pick_ok (many := 3) (.inl (by omega)) src10
  obtain ⟨r12, src12, e12, a120, a121⟩ := pick_ok (many := 4) (.inl (by omega)) src11
  obtain ⟨r13, src13, e13, a130, a131⟩ := pick_ok (many := 4) (.inl (by omega)) src12
  generalize hwd : 399 - r11 = wide
  have hw1 : 397 ≤ wide ∧ wide ≤ 399 := by omega
  have hl1 := fun am => lform_ok (m := m) (by omega) (T := [(0, 1), (r12, 1)]) (size_lt (by simp)) (.inl rfl) am
  have hl2 := fun am => lform_ok (m := m) (by omega) (T := [(0, 1), (r12, 1), (wide, 1), (wide + r12, 1)]) (size_lt (by simp)) (.inl rfl) am
  generalize hLn : told m [(0, 1), (r12, 1)] = Ln at hl1
  generalize hDu : told m [(0, 1), (r12, 1), (wide, 1), (wide + r12, 1)] = Du at hl2
  have hLnF : Form m Ln := hLn ▸ told_form (by omega) _
  have hDuF : Form m Du := hDu ▸ told_form (by omega) _
  have hLnl : Ln.length ≤ 2 := hLn ▸ told_length m _
  have hDul : Du.length ≤ 4 := hDu ▸ told_length m _
  have hDuw : Within 0 402 Du := hDu ▸ Within.told (fun x hx => by
    simp at hx
    rcases hx with rfl | rfl | rfl | rfl
    · show (0 : Int) ≤ 0 ∧ (0 : Int) ≤ 402; omega
    · show (0 : Int) ≤ r12 ∧ r12 ≤ 402; omega
    · show (0 : Int) ≤ wide ∧ wide ≤ 402; omega
    · show (0 : Int) ≤ wide + r12 ∧ wide + r12 ≤ 402; omega)
  have hprod : told m (prodL Ln [(0, 1), (wide, 1)]) = Du := by
    rw [← hLn, ← hDu, Eqm.told ((eqm_told m [(0, 1), (r12, 1)]).prod_left [(0, 1), (wide, 1)])]
    refine told_congr fun p => ?_
    have : cf (prodL [(0, 1), (r12, 1)] [(0, 1), (wide, 1)]) p = cf [(0, 1), (r12, 1), (wide, 1), (wide + r12, 1)] p := by
      simp [prodL, Int.add_comm r12 wide]
      omega
    rw [this]
  have htl1 := fun am => ltold_led (m := m) (m2 := m) (by omega) (hLnF.small (by omega)) (B := [(0, 1), (wide, 1)]) (size_lt (by simp; omega)) am
  rw [hprod] at htl1
  have hDuo : Ok14 Du := ⟨by omega, fun x hx => by
    have a1 := hDuw x hx
    have a2 := hDuF.2 x hx
    have a3 : (1000 : Int) < 10 ^ 100 := by decide
    omega⟩
  have hrT1 := repr_told (m := m) (hsm m (by omega) (by omega)) hDuo.fine
  have hEd : (PyData.tuple [.int m, .tuple [.tuple [.int 0, .int 1], .tuple [.int wide, .int 1]]]) = ruD m [(0, 1), (wide, 1)] := rfl
  have hsE := fun am => span_ok (m := m) [(0, 1), (wide, 1)] am
  have hsE2 : spanL [(0, 1), (wide, 1)] = wide + 1 := by simp [spanL]
  rw [hsE2] at hsE
  generalize hed : 398 + r13 = edge
  have hed1 : 398 ≤ edge ∧ edge ≤ 401 := by omega
  have hEF : Form m [(0, 1), (edge, 1)] := ⟨by simp [Sorted]; omega, fun x hx => by
    simp at hx
    rcases hx with rfl | rfl
    · show (0 : Int) < 1 ∧ (1 : Int) < m; omega
    · show (0 : Int) < 1 ∧ (1 : Int) < m; omega⟩
  have htl2 := fun am => ltold_plus (m := m) (m2 := m) (by omega) (A := [(0, 1)]) (B := [(edge, 1)]) (size_lt (by simp)) am
  have happ : told m ([((0 : Int), (1 : Int))] ++ [(edge, 1)]) = [(0, 1), (edge, 1)] := told_self hEF
  rw [happ] at htl2
  have hsD : spanL [((0 : Int), (1 : Int)), (edge, 1)] = edge + 1 := by simp [spanL]
  have hEo : Ok14 [((0 : Int), (1 : Int)), (edge, 1)] := ⟨by simp, fun x hx => by
    have a3 : (1000 : Int) < 10 ^ 100 := by decide
    simp at hx
    rcases hx with rfl | rfl
    · show (0 : Int).natAbs < 10 ^ 100 ∧ (1 : Int).natAbs < 10 ^ 100; omega
    · show edge.natAbs < 10 ^ 100 ∧ (1 : Int).natAbs < 10 ^ 100; omega⟩
  have hrT2 := repr_told (m := m) (hsm m (by omega) (by omega)) hEo.fine
  have hru3 : (PyData.tuple [.int m, .tuple [.tuple [.int edge, .int 1]]]) = ruD m [(edge, 1)] := rfl
  have hru4 : (PyData.tuple [.int m, .tuple [.tuple [.int 0, .int 1], .tuple [.int edge, .int 1]]]) = ruD m [(0, 1), (edge, 1)] := rfl
  have hlast := fun am => told_ok (m := m) (by omega) (T := [(3, m + 1), (3, -1)]) (size_lt (by simp)) (.inl rfl) am
  have hlast2 : told m [(3, m + 1), (3, -1)] = [] := by
    refine (told_congr (U := []) fun p => ?_).trans rfl
    simp
    by_cases h : (3 : Int) = p
    · simp [h, show m + 1 + -1 = m by omega]
    · simp [h]
  rw [hlast2] at hlast
  have hr0 := hrD m [] (by omega) (by omega) h00
  simp [pT] at hl1 hl2 hlast
  have hgreat : ∀ (x : Pr) (l : List Pr), Du = x :: l → atI (Du.map pT) 0 = some (pT x) ∧ ∃ y : Pr, atI (Du.map pT) (-1) = some (pT y) ∧ spanL Du = y.1 - x.1 + 1 := fun x l e => by
    have e1 : Du.map pT = (Du.dropLast.map pT) ++ [pT (Du.getLast (by rw [e]; simp))] := by
      rw [← List.map_singleton, ← List.map_append, List.dropLast_concat_getLast]
    refine ⟨by rw [e]; exact atI_0, Du.getLast (by rw [e]; simp), by rw [e1]; exact atI_last, ?_⟩
    subst e
    rfl
  have hN0 : dNe (PyData.list []) (PyData.list []) = some (.st (.bool false)) := by
    have := dNe_ints [] []
    simpa using this
  have hnD := dNe_nil Du
  have hxE : wide - r12 = wide - r12 := rfl
  have hT2 : toldD m [(0, 1), (edge, 1)] = if edge < 400 then .tuple [.str "told", ruD m [(0, 1), (edge, 1)]] else .tuple [.str "great", .int 0] := by
    unfold toldD
    rw [hsD]
    by_cases h : edge < 400
    · rw [if_pos (by omega), if_pos h]
    · rw [if_neg (by omega), if_neg h]
  have hD0 : Du = [] → dNe (.tuple (Du.map pT)) (.tuple []) = some (.st (.bool false)) ∧ toldD m Du = .tuple [.str "told", ruD m Du] := fun e => by
    subst e
    exact ⟨hnD, by unfold toldD; simp [spanL]⟩
  have hD1 : Du ≠ [] → dNe (.tuple (Du.map pT)) (.tuple []) = some (.st (.bool true)) ∧ ∃ x y : Pr, atI (Du.map pT) 0 = some (pT x) ∧ atI (Du.map pT) (-1) = some (pT y) ∧ toldD m Du = if 399 < y.1 - x.1 then .tuple [.str "great", .int 0] else .tuple [.str "told", ruD m Du] := fun e => by
    obtain ⟨x, l, e2⟩ := List.exists_cons_of_ne_nil e
    obtain ⟨h0, y, h1, h2⟩ := hgreat x l e2
    refine ⟨by rw [hnD, e2]; rfl, x, y, h0, h1, ?_⟩
    unfold toldD
    rw [h2]
    by_cases h : 399 < y.1 - x.1
    · rw [if_neg (by omega), if_pos h]
    · rw [if_pos (by omega), if_neg h]
  have hix : ∀ (x : Pr), dIxD (pT x) (.int 0) = some (.st (.int x.1)) := fun x => by simp [pT, atI_0]
  rw [hT2] at htl2 hrT2
  have hlitc : (lit = [] ∧ True) ∨ ∃ i0 l0, lit = i0 :: l0 := by
    cases lit with
    | nil => exact .inl ⟨rfl, trivial⟩
    | cons i0 l0 => exact .inr ⟨i0, l0, rfl⟩
  by_cases hDe : Du = []
  · obtain ⟨g1, g2⟩ := hD0 hDe
    rw [g2] at htl1 hrT1
    by_cases hee : edge < 400
    · simp only [hee, if_true] at htl2 hrT2
      rcases hlitc with ⟨rfl, _⟩ | ⟨i0, l0, rfl⟩
      · simp [hfst, hlr0, e11, hwd, hN0, hEd, e12, hl1, hl2, g1,  htl1, hrT1, e13, hed, hee, hru1, hru3, hru4, htl2, hrT2, hsE, hlast, hru0, hr0]
      · have hlr1 := hlr i0 (by simp)
        have hN1 := dNe_none (fun i : Nat => (i : Int)) (i0 :: l0)
        simp at hN1
        simp [hfst, hlr1, e11, hwd, hN1, atI_0, hEd, e12, hl1, hl2, g1,  htl1, hrT1, e13, hed, hee, hru1, hru3, hru4, htl2, hrT2, hsE, hlast, hru0, hr0]
    · simp only [hee, if_false] at htl2 hrT2
      rcases hlitc with ⟨rfl, _⟩ | ⟨i0, l0, rfl⟩
      · simp [hfst, hlr0, e11, hwd, hN0, hEd, e12, hl1, hl2, g1,  htl1, hrT1, e13, hed, hee, hru1, hru3, hru4, htl2, hrT2, hsE, hlast, hru0, hr0]
      · have hlr1 := hlr i0 (by simp)
        have hN1 := dNe_none (fun i : Nat => (i : Int)) (i0 :: l0)
        simp at hN1
        simp [hfst, hlr1, e11, hwd, hN1, atI_0, hEd, e12, hl1, hl2, g1,  htl1, hrT1, e13, hed, hee, hru1, hru3, hru4, htl2, hrT2, hsE, hlast, hru0, hr0]
  · obtain ⟨g1, x, y, q0, q1, g2⟩ := hD1 hDe
    have q2 := hix x
    have q3 := hix y
    rw [g2] at htl1 hrT1
    by_cases hsg : 399 < y.1 - x.1
    · simp only [hsg, if_true] at htl1 hrT1
      by_cases hee : edge < 400
      · simp only [hee, if_true] at htl2 hrT2
        rcases hlitc with ⟨rfl, _⟩ | ⟨i0, l0, rfl⟩
        · simp [hfst, hlr0, e11, hwd, hN0, hEd, e12, hl1, hl2, g1, q0, q1, q2, q3, hsg, htl1, hrT1, e13, hed, hee, hru1, hru3, hru4, htl2, hrT2, hsE, hlast, hru0, hr0]
        · have hlr1 := hlr i0 (by simp)
          have hN1 := dNe_none (fun i : Nat => (i : Int)) (i0 :: l0)
          simp at hN1
          simp [hfst, hlr1, e11, hwd, hN1, atI_0, hEd, e12, hl1, hl2, g1, q0, q1, q2, q3, hsg, htl1, hrT1, e13, hed, hee, hru1, hru3, hru4, htl2, hrT2, hsE, hlast, hru0, hr0]
      · simp only [hee, if_false] at htl2 hrT2
        rcases hlitc with ⟨rfl, _⟩ | ⟨i0, l0, rfl⟩
        · simp [hfst, hlr0, e11, hwd, hN0, hEd, e12, hl1, hl2, g1, q0, q1, q2, q3, hsg, htl1, hrT1, e13, hed, hee, hru1, hru3, hru4, htl2, hrT2, hsE, hlast, hru0, hr0]
        · have hlr1 := hlr i0 (by simp)
          have hN1 := dNe_none (fun i : Nat => (i : Int)) (i0 :: l0)
          simp at hN1
          simp [hfst, hlr1, e11, hwd, hN1, atI_0, hEd, e12, hl1, hl2, g1, q0, q1, q2, q3, hsg, htl1, hrT1, e13, hed, hee, hru1, hru3, hru4, htl2, hrT2, hsE, hlast, hru0, hr0]
    · simp only [hsg, if_false] at htl1 hrT1
      by_cases hee : edge < 400
      · simp only [hee, if_true] at htl2 hrT2
        rcases hlitc with ⟨rfl, _⟩ | ⟨i0, l0, rfl⟩
        · simp [hfst, hlr0, e11, hwd, hN0, hEd, e12, hl1, hl2, g1, q0, q1, q2, q3, hsg, htl1, hrT1, e13, hed, hee, hru1, hru3, hru4, htl2, hrT2, hsE, hlast, hru0, hr0]
        · have hlr1 := hlr i0 (by simp)
          have hN1 := dNe_none (fun i : Nat => (i : Int)) (i0 :: l0)
          simp at hN1
          simp [hfst, hlr1, e11, hwd, hN1, atI_0, hEd, e12, hl1, hl2, g1, q0, q1, q2, q3, hsg, htl1, hrT1, e13, hed, hee, hru1, hru3, hru4, htl2, hrT2, hsE, hlast, hru0, hr0]
      · simp only [hee, if_false] at htl2 hrT2
        rcases hlitc with ⟨rfl, _⟩ | ⟨i0, l0, rfl⟩
        · simp [hfst, hlr0, e11, hwd, hN0, hEd, e12, hl1, hl2, g1, q0, q1, q2, q3, hsg, htl1, hrT1, e13, hed, hee, hru1, hru3, hru4, htl2, hrT2, hsE, hlast, hru0, hr0]
        · have hlr1 := hlr i0 (by simp)
          have hN1 := dNe_none (fun i : Nat => (i : Int)) (i0 :: l0)
          simp at hN1
          simp [hfst, hlr1, e11, hwd, hN1, atI_0, hEd, e12, hl1, hl2, g1, q0, q1, q2, q3, hsg, htl1, hrT1, e13, hed, hee, hru1, hru3, hru4, htl2, hrT2, hsE, hlast, hru0, hr0]
end Law_k14

namespace Law_k14
open PySem PySem.Spec PyProof.Rows L2 Rf
def top (i : Nat) : Stmt := PySem.Challenge.pw_sumcells_k14_rows_led_by_cells.main.body.getD i (.Pass ⟨0, 0, 0, 0⟩)
abbrev FnP (K : PySem.W.Frag) (x : Str) (st : Stmt) (f : Addr) (fd : FuncData) : Prop := FunD K x x (defArgs st) (defBody st) (defScope st) [] [] f fd
abbrev s_rule_told : Stmt := top 6
theorem sc_rule_told : FnScope ["m", "terms", "found", "place", "number"] ["m", "terms"] (defScope s_rule_told) := ⟨rfl, rfl, rfl, by decide +kernel, rfl, by decide +kernel, by decide +kernel⟩
abbrev s_span_of : Stmt := top 7
theorem sc_span_of : FnScope ["rule", "lit"] ["rule"] (defScope s_span_of) := ⟨rfl, rfl, rfl, by decide +kernel, rfl, by decide +kernel, by decide +kernel⟩
abbrev s_rule_made : Stmt := top 8
theorem sc_rule_made : FnScope ["rule"] ["rule"] (defScope s_rule_made) := ⟨rfl, rfl, rfl, by decide +kernel, rfl, by decide +kernel, by decide +kernel⟩
abbrev s_put_on : Stmt := top 9
theorem sc_put_on : FnScope ["one", "other", "found", "place", "number", "late", "more"] ["one", "other"] (defScope s_put_on) := ⟨rfl, rfl, rfl, by decide +kernel, rfl, by decide +kernel, by decide +kernel⟩
abbrev s_rules_on : Stmt := top 10
theorem sc_rules_on : FnScope ["one", "other"] ["one", "other"] (defScope s_rules_on) := ⟨rfl, rfl, rfl, by decide +kernel, rfl, by decide +kernel, by decide +kernel⟩
abbrev s_rules_and : Stmt := top 11
theorem sc_rules_and : FnScope ["one", "other"] ["one", "other"] (defScope s_rules_and) := ⟨rfl, rfl, rfl, by decide +kernel, rfl, by decide +kernel, by decide +kernel⟩
abbrev s_rule_turned : Stmt := top 12
theorem sc_rule_turned : FnScope ["rule", "place", "number"] ["rule"] (defScope s_rule_turned) := ⟨rfl, rfl, rfl, by decide +kernel, rfl, by decide +kernel, by decide +kernel⟩
abbrev s_rule_moved : Stmt := top 13
theorem sc_rule_moved : FnScope ["rule", "much", "place", "number"] ["rule", "much"] (defScope s_rule_moved) := ⟨rfl, rfl, rfl, by decide +kernel, rfl, by decide +kernel, by decide +kernel⟩
abbrev s_rule_split : Stmt := top 14
theorem sc_rule_split : FnScope ["rule", "part"] ["rule", "part"] (defScope s_rule_split) := ⟨rfl, rfl, rfl, by decide +kernel, rfl, by decide +kernel, by decide +kernel⟩
abbrev s_row_led : Stmt := top 16
theorem sc_row_led : FnScope ["rule", "row"] ["rule", "row"] (defScope s_row_led) := ⟨rfl, rfl, rfl, by decide +kernel, rfl, by decide +kernel, by decide +kernel⟩
abbrev s_rows_plus : Stmt := top 17
theorem sc_rows_plus : FnScope ["one", "other"] ["one", "other"] (defScope s_rows_plus) := ⟨rfl, rfl, rfl, by decide +kernel, rfl, by decide +kernel, by decide +kernel⟩
abbrev s_cell_of : Stmt := top 18
theorem sc_cell_of : FnScope ["row", "place"] ["row", "place"] (defScope s_cell_of) := ⟨rfl, rfl, rfl, by decide +kernel, rfl, by decide +kernel, by decide +kernel⟩
abbrev s_cells_led : Stmt := top 19
theorem sc_cells_led : FnScope ["rule", "cells", "many", "found", "place", "number", "late", "more"] ["rule", "cells"] (defScope s_cells_led) := ⟨rfl, rfl, rfl, by decide +kernel, rfl, by decide +kernel, by decide +kernel⟩
abbrev s_first_lit : Stmt := top 20
theorem sc_first_lit : FnScope ["cells", "place", "number"] ["cells"] (defScope s_first_lit) := ⟨rfl, rfl, rfl, by decide +kernel, rfl, by decide +kernel, by decide +kernel⟩
abbrev s__law_source : Stmt := top 22
theorem sc__law_source : FnScope ["script", "mixed", "cell"] ["script"] (defScope s__law_source) := ⟨rfl, rfl, rfl, by decide +kernel, rfl, by decide +kernel, by decide +kernel⟩
abbrev s__law_pick : Stmt := top 23
theorem sc__law_pick : FnScope ["source", "many", "left", "mixed"] ["source", "many"] (defScope s__law_pick) := ⟨rfl, rfl, rfl, by decide +kernel, rfl, by decide +kernel, by decide +kernel⟩
abbrev s__law_of : Stmt := top 24
theorem sc__law_of : FnScope ["source", "some"] ["source", "some"] (defScope s__law_of) := ⟨rfl, rfl, rfl, by decide +kernel, rfl, by decide +kernel, by decide +kernel⟩
abbrev s__law_form : Stmt := top 25
theorem sc__law_form : FnScope ["m", "terms", "found", "place", "number"] ["m", "terms"] (defScope s__law_form) := ⟨rfl, rfl, rfl, by decide +kernel, rfl, by decide +kernel, by decide +kernel⟩
abbrev s__law_rule : Stmt := top 26
theorem sc__law_rule : FnScope ["source", "m", "many", "wide", "terms", "lap"] ["source", "m", "many", "wide"] (defScope s__law_rule) := ⟨rfl, rfl, rfl, by decide +kernel, rfl, by decide +kernel, by decide +kernel⟩
abbrev s__law_at : Stmt := top 27
theorem sc__law_at : FnScope ["row", "place"] ["row", "place"] (defScope s__law_at) := ⟨rfl, rfl, rfl, by decide +kernel, rfl, by decide +kernel, by decide +kernel⟩
abbrev s__law_led_at : Stmt := top 28
theorem sc__law_led_at : FnScope ["rule", "row", "place", "late", "number"] ["rule", "row", "place"] (defScope s__law_led_at) := ⟨rfl, rfl, rfl, by decide +kernel, rfl, by decide +kernel, by decide +kernel⟩
abbrev s__law_told : Stmt := top 29
theorem sc__law_told : FnScope ["call", "one", "other", "error"] ["call", "one", "other"] (defScope s__law_told) := ⟨rfl, rfl, rfl, by decide +kernel, rfl, by decide +kernel, by decide +kernel⟩
abbrev s_law : Stmt := top 30
theorem sc_law : FnScope ["script", "source", "m", "rule", "row", "other", "far", "led", "both", "looks", "due", "much", "part", "many", "cells", "told", "place", "lit", "wide", "ends", "step", "line", "great", "edge", "late", "lap", "number", "k", "cell"] ["script"] (defScope s_law) := ⟨rfl, rfl, rfl, by decide +kernel, rfl, by decide +kernel, by decide +kernel⟩
abbrev frees : List Str := ["abs", "dict", "enumerate", "int", "len", "list", "max", "range", "repr", "sorted", "sum", "tuple"]
section
variable {P : Program} {w : World} {K : PySem.W.Frag} {mg : Str → Option Value} {base : Heap}
theorem b_rule_told (gF : ∀ x : Str, x ∈ frees → mg x = none) {f : Addr} (cdv : Value) (A : Around) (outer : List Env) (s : Shared) (H : Hp) (E : XK) (hgd : A.guards = some []) (hr : Room 0 (A.deeper (envOfC "rule_told" (defScope s_rule_told) s.heap.objs.size f cdv))) :
    PSs (cxOf (L2.CX P w) P w K mg base ["m", "terms", "found", "place", "number"] "rule_told" (defScope s_rule_told) f cdv A outer s H E) (defBody s_rule_told) (rdS ⟨K, mg⟩ (fun cls d _ H => E cls d H) m_rule_told) :=
  have tk : Takes (cxOf (L2.CX P w) P w K mg base ["m", "terms", "found", "place", "number"] "rule_told" (defScope s_rule_told) f cdv A outer s H E) (fun cls d _ H => E cls d H) := takes_of rfl rfl rfl rfl
  ss_cons (s_set (i := 2) sc_rule_told.nd rfl (by first | exact .inl rfl | exact .inr rfl) (g_dict0) rfl (.inl rfl)) (ss_cons (s_for (passes_of rfl) rfl (i_seq (e_var (i := 1) rfl (by first | exact .inl rfl | exact .inr (.inl rfl) | exact .inr (.inr rfl)) rfl rfl)) (t_tup rfl (ts_cons (t_name (i := 3) sc_rule_told.nd rfl (by first | exact .inl rfl | exact .inr rfl) (by first | exact .inl rfl | exact .inr rfl)) (ts_cons (t_name (i := 4) sc_rule_told.nd rfl (by first | exact .inl rfl | exact .inr rfl) (by first | exact .inl rfl | exact .inr rfl)) ts_nil rfl) rfl) rfl rfl) (ss_one (s_setIx (u1 hr) (g_mod (g_add (g_get hr (e_var (i := 2) rfl (by first | exact .inl rfl | exact .inr (.inl rfl) | exact .inr (.inr rfl)) rfl rfl) (e_var (i := 3) rfl (by first | exact .inl rfl | exact .inr (.inl rfl) | exact .inr (.inr rfl)) rfl rfl) (e_int) rfl rfl rfl rfl) (e_var (i := 4) rfl (by first | exact .inl rfl | exact .inr (.inl rfl) | exact .inr (.inr rfl)) rfl rfl)) (e_var (i := 0) rfl (by first | exact .inl rfl | exact .inr (.inl rfl) | exact .inr (.inr rfl)) rfl rfl)) (e_var (i := 2) rfl (by first | exact .inl rfl | exact .inr (.inl rfl) | exact .inr (.inr rfl)) rfl rfl) (e_var (i := 3) rfl (by first | exact .inl rfl | exact .inr (.inl rfl) | exact .inr (.inr rfl)) rfl rfl) (fun _ => rfl) rfl rfl rfl)) (fun _ => rfl)) (ss_one (s_ret (e_tup (a_cons (e_var (i := 0) rfl (by first | exact .inl rfl | exact .inr (.inl rfl) | exact .inr (.inr rfl)) rfl rfl) (a_cons (g_tuple (a_cons (e_comp (own := [("place", 3)]) rfl sc_rule_told.nd (i_seq (g_sorted (a_cons (e_var (i := 2) rfl (by first | exact .inl rfl | exact .inr (.inl rfl) | exact .inr (.inr rfl)) rfl rfl) (a_nil) rfl) rfl rfl rfl rfl (gF "sorted" (by decide)))) (blk_ok rfl (by kernel_rfl)) (by decide) (fun _ _ _ _ _ => (t_name (i := 3) sc_rule_told.nd rfl (by first | exact .inl rfl | exact .inr rfl) (by first | exact .inl rfl | exact .inr rfl))) (fun _ _ _ _ _ => pts_one (h_ne hr (g_ix hr (e_var (i := 2) rfl (by first | exact .inl rfl | exact .inr (.inl rfl) | exact .inr (.inr rfl)) rfl rfl) (e_var (i := 3) rfl (by first | exact .inl rfl | exact .inr (.inl rfl) | exact .inr (.inr rfl)) rfl rfl) (fun _ _ => rfl)) (e_int))) (fun _ _ _ _ _ => e_tup (a_cons (e_var (i := 3) rfl (by first | exact .inl rfl | exact .inr (.inl rfl) | exact .inr (.inr rfl)) rfl rfl) (a_cons (g_ix hr (e_var (i := 2) rfl (by first | exact .inl rfl | exact .inr (.inl rfl) | exact .inr (.inr rfl)) rfl rfl) (e_var (i := 3) rfl (by first | exact .inl rfl | exact .inr (.inl rfl) | exact .inr (.inr rfl)) rfl rfl) (fun _ _ => rfl)) (a_nil) rfl) rfl)) (fun _ => rfl)) (a_nil) rfl) rfl rfl rfl (gF "tuple" (by decide))) (a_nil) rfl) rfl)))))
theorem cal_rule_told (gF : ∀ x : Str, x ∈ frees → mg x = none) {f : Addr} {fd : FuncData} (F : FnP K "rule_told" s_rule_told f fd) (hm : mg "rule_told" = some (.ref f)) : Cal P w K mg base 1 "rule_told" 2 f_rule_told :=
  ⟨f, fd, ["m", "terms"], rfl, fn_ok F sc_rule_told (fun cdv A outer s H E hgd hr => b_rule_told gF cdv A outer s H E hgd hr), hm, F.kp, F.bindsN fun _ _ _ _ _ _ us hl => match us, hl with | [_, _], _ => rfl⟩
theorem b_span_of (gF : ∀ x : Str, x ∈ frees → mg x = none) {f : Addr} (cdv : Value) (A : Around) (outer : List Env) (s : Shared) (H : Hp) (E : XK) (hgd : A.guards = some []) (hr : Room 0 (A.deeper (envOfC "span_of" (defScope s_span_of) s.heap.objs.size f cdv))) :
    PSs (cxOf (L2.CX P w) P w K mg base ["rule", "lit"] "span_of" (defScope s_span_of) f cdv A outer s H E) (defBody s_span_of) (rdS ⟨K, mg⟩ (fun cls d _ H => E cls d H) m_span_of) :=
  have tk : Takes (cxOf (L2.CX P w) P w K mg base ["rule", "lit"] "span_of" (defScope s_span_of) f cdv A outer s H E) (fun cls d _ H => E cls d H) := takes_of rfl rfl rfl rfl
  ss_cons (s_set (i := 1) sc_span_of.nd rfl (by first | exact .inl rfl | exact .inr rfl) (g_ix hr (e_var (i := 0) rfl (by first | exact .inl rfl | exact .inr (.inl rfl) | exact .inr (.inr rfl)) rfl rfl) (e_int) (fun _ _ => rfl)) rfl (.inl rfl)) (ss_one (s_ret (e_if (h_ne hr (e_var (i := 1) rfl (by first | exact .inl rfl | exact .inr (.inl rfl) | exact .inr (.inr rfl)) rfl rfl) (e_tup (a_nil))) (g_add (g_sub (g_ix hr (g_ix hr (e_var (i := 1) rfl (by first | exact .inl rfl | exact .inr (.inl rfl) | exact .inr (.inr rfl)) rfl rfl) (e_neg (e_int)) (fun _ _ => rfl)) (e_int) (fun _ _ => rfl)) (g_ix hr (g_ix hr (e_var (i := 1) rfl (by first | exact .inl rfl | exact .inr (.inl rfl) | exact .inr (.inr rfl)) rfl rfl) (e_int) (fun _ _ => rfl)) (e_int) (fun _ _ => rfl))) (e_int)) (e_int))))
theorem cal_span_of (gF : ∀ x : Str, x ∈ frees → mg x = none) {f : Addr} {fd : FuncData} (F : FnP K "span_of" s_span_of f fd) (hm : mg "span_of" = some (.ref f)) : Cal P w K mg base 1 "span_of" 1 f_span_of :=
  ⟨f, fd, ["rule"], rfl, fn_ok F sc_span_of (fun cdv A outer s H E hgd hr => b_span_of gF cdv A outer s H E hgd hr), hm, F.kp, F.bindsN fun _ _ _ _ _ _ us hl => match us, hl with | [_], _ => rfl⟩
theorem b_rule_made (gF : ∀ x : Str, x ∈ frees → mg x = none) (C_span_of : Cal P w K mg base 1 "span_of" 1 f_span_of) (c_MOST_PLACES : ∃ t, mg "MOST_PLACES" = some (.int 400 t)) (c_WIDE : ∃ t, mg "WIDE" = some (.int 0 t)) (E_TooGreat : Err1 P w K mg "TooGreat" "number") {f : Addr} (cdv : Value) (A : Around) (outer : List Env) (s : Shared) (H : Hp) (E : XK) (hgd : A.guards = some []) (hr : Room 2 (A.deeper (envOfC "rule_made" (defScope s_rule_made) s.heap.objs.size f cdv))) :
    PSs (cxOf (L2.CX P w) P w K mg base ["rule"] "rule_made" (defScope s_rule_made) f cdv A outer s H E) (defBody s_rule_made) (rdS ⟨K, mg⟩ (fun cls d _ H => E cls d H) m_rule_made) :=
  have tk : Takes (cxOf (L2.CX P w) P w K mg base ["rule"] "rule_made" (defScope s_rule_made) f cdv A outer s H E) (fun cls d _ H => E cls d H) := takes_of rfl rfl rfl rfl
  ss_cons (s_if (h_gt (e_fn C_span_of hgd (hr.mono (by decide)) rfl tk (a_cons (e_var (i := 0) rfl (by first | exact .inl rfl | exact .inr (.inl rfl) | exact .inr (.inr rfl)) rfl rfl) (a_nil) rfl) (many_cons many_nil) rfl rfl rfl) (g_int rfl c_MOST_PLACES rfl)) (ss_one (s_raiseE rfl tk E_TooGreat (hr.mono (by decide)) rfl (a_cons (g_int rfl c_WIDE rfl) (a_nil) rfl) rfl rfl rfl)) (ss_nil)) (ss_one (s_ret (e_var (i := 0) rfl (by first | exact .inl rfl | exact .inr (.inl rfl) | exact .inr (.inr rfl)) rfl rfl)))
theorem cal_rule_made (gF : ∀ x : Str, x ∈ frees → mg x = none) (C_span_of : Cal P w K mg base 1 "span_of" 1 f_span_of) (c_MOST_PLACES : ∃ t, mg "MOST_PLACES" = some (.int 400 t)) (c_WIDE : ∃ t, mg "WIDE" = some (.int 0 t)) (E_TooGreat : Err1 P w K mg "TooGreat" "number") {f : Addr} {fd : FuncData} (F : FnP K "rule_made" s_rule_made f fd) (hm : mg "rule_made" = some (.ref f)) : Cal P w K mg base 3 "rule_made" 1 f_rule_made :=
  ⟨f, fd, ["rule"], rfl, fn_ok F sc_rule_made (fun cdv A outer s H E hgd hr => b_rule_made gF C_span_of c_MOST_PLACES c_WIDE E_TooGreat cdv A outer s H E hgd hr), hm, F.kp, F.bindsN fun _ _ _ _ _ _ us hl => match us, hl with | [_], _ => rfl⟩
theorem b_put_on (gF : ∀ x : Str, x ∈ frees → mg x = none) (C_rule_told : Cal P w K mg base 1 "rule_told" 2 f_rule_told) {f : Addr} (cdv : Value) (A : Around) (outer : List Env) (s : Shared) (H : Hp) (E : XK) (hgd : A.guards = some []) (hr : Room 1 (A.deeper (envOfC "put_on" (defScope s_put_on) s.heap.objs.size f cdv))) :
    PSs (cxOf (L2.CX P w) P w K mg base ["one", "other", "found", "place", "number", "late", "more"] "put_on" (defScope s_put_on) f cdv A outer s H E) (defBody s_put_on) (rdS ⟨K, mg⟩ (fun cls d _ H => E cls d H) m_put_on) :=
  have tk : Takes (cxOf (L2.CX P w) P w K mg base ["one", "other", "found", "place", "number", "late", "more"] "put_on" (defScope s_put_on) f cdv A outer s H E) (fun cls d _ H => E cls d H) := takes_of rfl rfl rfl rfl
  ss_cons (s_set (i := 2) sc_put_on.nd rfl (by first | exact .inl rfl | exact .inr rfl) (g_dict0) rfl (.inl rfl)) (ss_cons (s_for (passes_of rfl) rfl (i_seq (g_ix hr (e_var (i := 0) rfl (by first | exact .inl rfl | exact .inr (.inl rfl) | exact .inr (.inr rfl)) rfl rfl) (e_int) (fun _ _ => rfl))) (t_tup rfl (ts_cons (t_name (i := 3) sc_put_on.nd rfl (by first | exact .inl rfl | exact .inr rfl) (by first | exact .inl rfl | exact .inr rfl)) (ts_cons (t_name (i := 4) sc_put_on.nd rfl (by first | exact .inl rfl | exact .inr rfl) (by first | exact .inl rfl | exact .inr rfl)) ts_nil rfl) rfl) rfl rfl) (ss_one (s_for (passes_of rfl) rfl (i_seq (g_ix hr (e_var (i := 1) rfl (by first | exact .inl rfl | exact .inr (.inl rfl) | exact .inr (.inr rfl)) rfl rfl) (e_int) (fun _ _ => rfl))) (t_tup rfl (ts_cons (t_name (i := 5) sc_put_on.nd rfl (by first | exact .inl rfl | exact .inr rfl) (by first | exact .inl rfl | exact .inr rfl)) (ts_cons (t_name (i := 6) sc_put_on.nd rfl (by first | exact .inl rfl | exact .inr rfl) (by first | exact .inl rfl | exact .inr rfl)) ts_nil rfl) rfl) rfl rfl) (ss_one (s_setIx (u1 hr) (g_add (g_get hr (e_var (i := 2) rfl (by first | exact .inl rfl | exact .inr (.inl rfl) | exact .inr (.inr rfl)) rfl rfl) (g_add (e_var (i := 3) rfl (by first | exact .inl rfl | exact .inr (.inl rfl) | exact .inr (.inr rfl)) rfl rfl) (e_var (i := 5) rfl (by first | exact .inl rfl | exact .inr (.inl rfl) | exact .inr (.inr rfl)) rfl rfl)) (e_int) rfl rfl rfl rfl) (g_mul (e_var (i := 4) rfl (by first | exact .inl rfl | exact .inr (.inl rfl) | exact .inr (.inr rfl)) rfl rfl) (e_var (i := 6) rfl (by first | exact .inl rfl | exact .inr (.inl rfl) | exact .inr (.inr rfl)) rfl rfl))) (e_var (i := 2) rfl (by first | exact .inl rfl | exact .inr (.inl rfl) | exact .inr (.inr rfl)) rfl rfl) (g_add (e_var (i := 3) rfl (by first | exact .inl rfl | exact .inr (.inl rfl) | exact .inr (.inr rfl)) rfl rfl) (e_var (i := 5) rfl (by first | exact .inl rfl | exact .inr (.inl rfl) | exact .inr (.inr rfl)) rfl rfl)) (fun _ => rfl) rfl rfl rfl)) (fun _ => rfl))) (fun _ => rfl)) (ss_one (s_ret (e_fn C_rule_told hgd (hr.mono (by decide)) rfl tk (a_cons (g_ix hr (e_var (i := 0) rfl (by first | exact .inl rfl | exact .inr (.inl rfl) | exact .inr (.inr rfl)) rfl rfl) (e_int) (fun _ _ => rfl)) (a_cons (e_items rfl (e_var (i := 2) rfl (by first | exact .inl rfl | exact .inr (.inl rfl) | exact .inr (.inr rfl)) rfl rfl) rfl (gF "list" (by decide)) rfl rfl rfl) (a_nil) rfl) rfl) (many_cons (many_cons many_nil)) rfl rfl rfl))))
theorem cal_put_on (gF : ∀ x : Str, x ∈ frees → mg x = none) (C_rule_told : Cal P w K mg base 1 "rule_told" 2 f_rule_told) {f : Addr} {fd : FuncData} (F : FnP K "put_on" s_put_on f fd) (hm : mg "put_on" = some (.ref f)) : Cal P w K mg base 2 "put_on" 2 f_put_on :=
  ⟨f, fd, ["one", "other"], rfl, fn_ok F sc_put_on (fun cdv A outer s H E hgd hr => b_put_on gF C_rule_told cdv A outer s H E hgd hr), hm, F.kp, F.bindsN fun _ _ _ _ _ _ us hl => match us, hl with | [_, _], _ => rfl⟩
theorem b_rules_on (gF : ∀ x : Str, x ∈ frees → mg x = none) (C_rule_made : Cal P w K mg base 3 "rule_made" 1 f_rule_made) (C_put_on : Cal P w K mg base 2 "put_on" 2 f_put_on) {f : Addr} (cdv : Value) (A : Around) (outer : List Env) (s : Shared) (H : Hp) (E : XK) (hgd : A.guards = some []) (hr : Room 3 (A.deeper (envOfC "rules_on" (defScope s_rules_on) s.heap.objs.size f cdv))) :
    PSs (cxOf (L2.CX P w) P w K mg base ["one", "other"] "rules_on" (defScope s_rules_on) f cdv A outer s H E) (defBody s_rules_on) (rdS ⟨K, mg⟩ (fun cls d _ H => E cls d H) m_rules_on) :=
  have tk : Takes (cxOf (L2.CX P w) P w K mg base ["one", "other"] "rules_on" (defScope s_rules_on) f cdv A outer s H E) (fun cls d _ H => E cls d H) := takes_of rfl rfl rfl rfl
  ss_one (s_ret (e_fn C_rule_made hgd (hr.mono (by decide)) rfl tk (a_cons (e_fn C_put_on hgd (hr.mono (by decide)) rfl tk (a_cons (e_var (i := 0) rfl (by first | exact .inl rfl | exact .inr (.inl rfl) | exact .inr (.inr rfl)) rfl rfl) (a_cons (e_var (i := 1) rfl (by first | exact .inl rfl | exact .inr (.inl rfl) | exact .inr (.inr rfl)) rfl rfl) (a_nil) rfl) rfl) (many_cons (many_cons many_nil)) rfl rfl rfl) (a_nil) rfl) (many_cons many_nil) rfl rfl rfl))
theorem cal_rules_on (gF : ∀ x : Str, x ∈ frees → mg x = none) (C_rule_made : Cal P w K mg base 3 "rule_made" 1 f_rule_made) (C_put_on : Cal P w K mg base 2 "put_on" 2 f_put_on) {f : Addr} {fd : FuncData} (F : FnP K "rules_on" s_rules_on f fd) (hm : mg "rules_on" = some (.ref f)) : Cal P w K mg base 4 "rules_on" 2 f_rules_on :=
  ⟨f, fd, ["one", "other"], rfl, fn_ok F sc_rules_on (fun cdv A outer s H E hgd hr => b_rules_on gF C_rule_made C_put_on cdv A outer s H E hgd hr), hm, F.kp, F.bindsN fun _ _ _ _ _ _ us hl => match us, hl with | [_, _], _ => rfl⟩
theorem b_rules_and (gF : ∀ x : Str, x ∈ frees → mg x = none) (C_rule_made : Cal P w K mg base 3 "rule_made" 1 f_rule_made) (C_rule_told : Cal P w K mg base 1 "rule_told" 2 f_rule_told) {f : Addr} (cdv : Value) (A : Around) (outer : List Env) (s : Shared) (H : Hp) (E : XK) (hgd : A.guards = some []) (hr : Room 3 (A.deeper (envOfC "rules_and" (defScope s_rules_and) s.heap.objs.size f cdv))) :
    PSs (cxOf (L2.CX P w) P w K mg base ["one", "other"] "rules_and" (defScope s_rules_and) f cdv A outer s H E) (defBody s_rules_and) (rdS ⟨K, mg⟩ (fun cls d _ H => E cls d H) m_rules_and) :=
  have tk : Takes (cxOf (L2.CX P w) P w K mg base ["one", "other"] "rules_and" (defScope s_rules_and) f cdv A outer s H E) (fun cls d _ H => E cls d H) := takes_of rfl rfl rfl rfl
  ss_one (s_ret (e_fn C_rule_made hgd (hr.mono (by decide)) rfl tk (a_cons (e_fn C_rule_told hgd (hr.mono (by decide)) rfl tk (a_cons (g_ix hr (e_var (i := 0) rfl (by first | exact .inl rfl | exact .inr (.inl rfl) | exact .inr (.inr rfl)) rfl rfl) (e_int) (fun _ _ => rfl)) (a_cons (g_add (g_ix hr (e_var (i := 0) rfl (by first | exact .inl rfl | exact .inr (.inl rfl) | exact .inr (.inr rfl)) rfl rfl) (e_int) (fun _ _ => rfl)) (g_ix hr (e_var (i := 1) rfl (by first | exact .inl rfl | exact .inr (.inl rfl) | exact .inr (.inr rfl)) rfl rfl) (e_int) (fun _ _ => rfl))) (a_nil) rfl) rfl) (many_cons (many_cons many_nil)) rfl rfl rfl) (a_nil) rfl) (many_cons many_nil) rfl rfl rfl))
theorem cal_rules_and (gF : ∀ x : Str, x ∈ frees → mg x = none) (C_rule_made : Cal P w K mg base 3 "rule_made" 1 f_rule_made) (C_rule_told : Cal P w K mg base 1 "rule_told" 2 f_rule_told) {f : Addr} {fd : FuncData} (F : FnP K "rules_and" s_rules_and f fd) (hm : mg "rules_and" = some (.ref f)) : Cal P w K mg base 4 "rules_and" 2 f_rules_and :=
  ⟨f, fd, ["one", "other"], rfl, fn_ok F sc_rules_and (fun cdv A outer s H E hgd hr => b_rules_and gF C_rule_made C_rule_told cdv A outer s H E hgd hr), hm, F.kp, F.bindsN fun _ _ _ _ _ _ us hl => match us, hl with | [_, _], _ => rfl⟩
theorem b_rule_turned (gF : ∀ x : Str, x ∈ frees → mg x = none) (C_rule_told : Cal P w K mg base 1 "rule_told" 2 f_rule_told) {f : Addr} (cdv : Value) (A : Around) (outer : List Env) (s : Shared) (H : Hp) (E : XK) (hgd : A.guards = some []) (hr : Room 1 (A.deeper (envOfC "rule_turned" (defScope s_rule_turned) s.heap.objs.size f cdv))) :
    PSs (cxOf (L2.CX P w) P w K mg base ["rule", "place", "number"] "rule_turned" (defScope s_rule_turned) f cdv A outer s H E) (defBody s_rule_turned) (rdS ⟨K, mg⟩ (fun cls d _ H => E cls d H) m_rule_turned) :=
  have tk : Takes (cxOf (L2.CX P w) P w K mg base ["rule", "place", "number"] "rule_turned" (defScope s_rule_turned) f cdv A outer s H E) (fun cls d _ H => E cls d H) := takes_of rfl rfl rfl rfl
  ss_one (s_ret (e_fn C_rule_told hgd (hr.mono (by decide)) rfl tk (a_cons (g_ix hr (e_var (i := 0) rfl (by first | exact .inl rfl | exact .inr (.inl rfl) | exact .inr (.inr rfl)) rfl rfl) (e_int) (fun _ _ => rfl)) (a_cons (e_comp (own := [("place", 1), ("number", 2)]) rfl sc_rule_turned.nd (i_seq (g_ix hr (e_var (i := 0) rfl (by first | exact .inl rfl | exact .inr (.inl rfl) | exact .inr (.inr rfl)) rfl rfl) (e_int) (fun _ _ => rfl))) (blk_ok rfl (by kernel_rfl)) (by decide) (fun _ _ _ _ _ => (t_tup rfl (ts_cons (t_name (i := 1) sc_rule_turned.nd rfl (by first | exact .inl rfl | exact .inr rfl) (by first | exact .inl rfl | exact .inr rfl)) (ts_cons (t_name (i := 2) sc_rule_turned.nd rfl (by first | exact .inl rfl | exact .inr rfl) (by first | exact .inl rfl | exact .inr rfl)) ts_nil rfl) rfl) rfl rfl)) (fun _ _ _ _ _ => t_nil) (fun _ _ _ _ _ => e_tup (a_cons (e_neg (e_var (i := 1) rfl (by first | exact .inl rfl | exact .inr (.inl rfl) | exact .inr (.inr rfl)) rfl rfl)) (a_cons (e_var (i := 2) rfl (by first | exact .inl rfl | exact .inr (.inl rfl) | exact .inr (.inr rfl)) rfl rfl) (a_nil) rfl) rfl)) (fun _ => rfl)) (a_nil) rfl) rfl) (many_cons (many_cons many_nil)) rfl rfl rfl))
theorem cal_rule_turned (gF : ∀ x : Str, x ∈ frees → mg x = none) (C_rule_told : Cal P w K mg base 1 "rule_told" 2 f_rule_told) {f : Addr} {fd : FuncData} (F : FnP K "rule_turned" s_rule_turned f fd) (hm : mg "rule_turned" = some (.ref f)) : Cal P w K mg base 2 "rule_turned" 1 f_rule_turned :=
  ⟨f, fd, ["rule"], rfl, fn_ok F sc_rule_turned (fun cdv A outer s H E hgd hr => b_rule_turned gF C_rule_told cdv A outer s H E hgd hr), hm, F.kp, F.bindsN fun _ _ _ _ _ _ us hl => match us, hl with | [_], _ => rfl⟩
theorem b_rule_moved (gF : ∀ x : Str, x ∈ frees → mg x = none) {f : Addr} (cdv : Value) (A : Around) (outer : List Env) (s : Shared) (H : Hp) (E : XK) (hgd : A.guards = some []) (hr : Room 0 (A.deeper (envOfC "rule_moved" (defScope s_rule_moved) s.heap.objs.size f cdv))) :
    PSs (cxOf (L2.CX P w) P w K mg base ["rule", "much", "place", "number"] "rule_moved" (defScope s_rule_moved) f cdv A outer s H E) (defBody s_rule_moved) (rdS ⟨K, mg⟩ (fun cls d _ H => E cls d H) m_rule_moved) :=
  have tk : Takes (cxOf (L2.CX P w) P w K mg base ["rule", "much", "place", "number"] "rule_moved" (defScope s_rule_moved) f cdv A outer s H E) (fun cls d _ H => E cls d H) := takes_of rfl rfl rfl rfl
  ss_one (s_ret (e_tup (a_cons (g_ix hr (e_var (i := 0) rfl (by first | exact .inl rfl | exact .inr (.inl rfl) | exact .inr (.inr rfl)) rfl rfl) (e_int) (fun _ _ => rfl)) (a_cons (g_tuple (a_cons (e_comp (own := [("place", 2), ("number", 3)]) rfl sc_rule_moved.nd (i_seq (g_ix hr (e_var (i := 0) rfl (by first | exact .inl rfl | exact .inr (.inl rfl) | exact .inr (.inr rfl)) rfl rfl) (e_int) (fun _ _ => rfl))) (blk_ok rfl (by kernel_rfl)) (by decide) (fun _ _ _ _ _ => (t_tup rfl (ts_cons (t_name (i := 2) sc_rule_moved.nd rfl (by first | exact .inl rfl | exact .inr rfl) (by first | exact .inl rfl | exact .inr rfl)) (ts_cons (t_name (i := 3) sc_rule_moved.nd rfl (by first | exact .inl rfl | exact .inr rfl) (by first | exact .inl rfl | exact .inr rfl)) ts_nil rfl) rfl) rfl rfl)) (fun _ _ _ _ _ => t_nil) (fun _ _ _ _ _ => e_tup (a_cons (g_add (e_var (i := 2) rfl (by first | exact .inl rfl | exact .inr (.inl rfl) | exact .inr (.inr rfl)) rfl rfl) (e_var (i := 1) rfl (by first | exact .inl rfl | exact .inr (.inl rfl) | exact .inr (.inr rfl)) rfl rfl)) (a_cons (e_var (i := 3) rfl (by first | exact .inl rfl | exact .inr (.inl rfl) | exact .inr (.inr rfl)) rfl rfl) (a_nil) rfl) rfl)) (fun _ => rfl)) (a_nil) rfl) rfl rfl rfl (gF "tuple" (by decide))) (a_nil) rfl) rfl)))
theorem cal_rule_moved (gF : ∀ x : Str, x ∈ frees → mg x = none) {f : Addr} {fd : FuncData} (F : FnP K "rule_moved" s_rule_moved f fd) (hm : mg "rule_moved" = some (.ref f)) : Cal P w K mg base 1 "rule_moved" 2 f_rule_moved :=
  ⟨f, fd, ["rule", "much"], rfl, fn_ok F sc_rule_moved (fun cdv A outer s H E hgd hr => b_rule_moved gF cdv A outer s H E hgd hr), hm, F.kp, F.bindsN fun _ _ _ _ _ _ us hl => match us, hl with | [_, _], _ => rfl⟩
theorem b_rule_split (gF : ∀ x : Str, x ∈ frees → mg x = none) (C_rule_told : Cal P w K mg base 1 "rule_told" 2 f_rule_told) {f : Addr} (cdv : Value) (A : Around) (outer : List Env) (s : Shared) (H : Hp) (E : XK) (hgd : A.guards = some []) (hr : Room 1 (A.deeper (envOfC "rule_split" (defScope s_rule_split) s.heap.objs.size f cdv))) :
    PSs (cxOf (L2.CX P w) P w K mg base ["rule", "part"] "rule_split" (defScope s_rule_split) f cdv A outer s H E) (defBody s_rule_split) (rdS ⟨K, mg⟩ (fun cls d _ H => E cls d H) m_rule_split) :=
  have tk : Takes (cxOf (L2.CX P w) P w K mg base ["rule", "part"] "rule_split" (defScope s_rule_split) f cdv A outer s H E) (fun cls d _ H => E cls d H) := takes_of rfl rfl rfl rfl
  ss_one (s_ret (e_fn C_rule_told hgd (hr.mono (by decide)) rfl tk (a_cons (e_var (i := 1) rfl (by first | exact .inl rfl | exact .inr (.inl rfl) | exact .inr (.inr rfl)) rfl rfl) (a_cons (g_ix hr (e_var (i := 0) rfl (by first | exact .inl rfl | exact .inr (.inl rfl) | exact .inr (.inr rfl)) rfl rfl) (e_int) (fun _ _ => rfl)) (a_nil) rfl) rfl) (many_cons (many_cons many_nil)) rfl rfl rfl))
theorem cal_rule_split (gF : ∀ x : Str, x ∈ frees → mg x = none) (C_rule_told : Cal P w K mg base 1 "rule_told" 2 f_rule_told) {f : Addr} {fd : FuncData} (F : FnP K "rule_split" s_rule_split f fd) (hm : mg "rule_split" = some (.ref f)) : Cal P w K mg base 2 "rule_split" 2 f_rule_split :=
  ⟨f, fd, ["rule", "part"], rfl, fn_ok F sc_rule_split (fun cdv A outer s H E hgd hr => b_rule_split gF C_rule_told cdv A outer s H E hgd hr), hm, F.kp, F.bindsN fun _ _ _ _ _ _ us hl => match us, hl with | [_, _], _ => rfl⟩
theorem b_row_led (gF : ∀ x : Str, x ∈ frees → mg x = none) (C_rules_on : Cal P w K mg base 4 "rules_on" 2 f_rules_on) {f : Addr} (cdv : Value) (A : Around) (outer : List Env) (s : Shared) (H : Hp) (E : XK) (hgd : A.guards = some []) (hr : Room 4 (A.deeper (envOfC "row_led" (defScope s_row_led) s.heap.objs.size f cdv))) :
    PSs (cxOf (L2.CX P w) P w K mg base ["rule", "row"] "row_led" (defScope s_row_led) f cdv A outer s H E) (defBody s_row_led) (rdS ⟨K, mg⟩ (fun cls d _ H => E cls d H) m_row_led) :=
  have tk : Takes (cxOf (L2.CX P w) P w K mg base ["rule", "row"] "row_led" (defScope s_row_led) f cdv A outer s H E) (fun cls d _ H => E cls d H) := takes_of rfl rfl rfl rfl
  ss_one (s_ret (e_fn C_rules_on hgd (hr.mono (by decide)) rfl tk (a_cons (e_var (i := 0) rfl (by first | exact .inl rfl | exact .inr (.inl rfl) | exact .inr (.inr rfl)) rfl rfl) (a_cons (e_var (i := 1) rfl (by first | exact .inl rfl | exact .inr (.inl rfl) | exact .inr (.inr rfl)) rfl rfl) (a_nil) rfl) rfl) (many_cons (many_cons many_nil)) rfl rfl rfl))
theorem cal_row_led (gF : ∀ x : Str, x ∈ frees → mg x = none) (C_rules_on : Cal P w K mg base 4 "rules_on" 2 f_rules_on) {f : Addr} {fd : FuncData} (F : FnP K "row_led" s_row_led f fd) (hm : mg "row_led" = some (.ref f)) : Cal P w K mg base 5 "row_led" 2 f_row_led :=
  ⟨f, fd, ["rule", "row"], rfl, fn_ok F sc_row_led (fun cdv A outer s H E hgd hr => b_row_led gF C_rules_on cdv A outer s H E hgd hr), hm, F.kp, F.bindsN fun _ _ _ _ _ _ us hl => match us, hl with | [_, _], _ => rfl⟩
theorem b_rows_plus (gF : ∀ x : Str, x ∈ frees → mg x = none) (C_rules_and : Cal P w K mg base 4 "rules_and" 2 f_rules_and) {f : Addr} (cdv : Value) (A : Around) (outer : List Env) (s : Shared) (H : Hp) (E : XK) (hgd : A.guards = some []) (hr : Room 4 (A.deeper (envOfC "rows_plus" (defScope s_rows_plus) s.heap.objs.size f cdv))) :
    PSs (cxOf (L2.CX P w) P w K mg base ["one", "other"] "rows_plus" (defScope s_rows_plus) f cdv A outer s H E) (defBody s_rows_plus) (rdS ⟨K, mg⟩ (fun cls d _ H => E cls d H) m_rows_plus) :=
  have tk : Takes (cxOf (L2.CX P w) P w K mg base ["one", "other"] "rows_plus" (defScope s_rows_plus) f cdv A outer s H E) (fun cls d _ H => E cls d H) := takes_of rfl rfl rfl rfl
  ss_one (s_ret (e_fn C_rules_and hgd (hr.mono (by decide)) rfl tk (a_cons (e_var (i := 0) rfl (by first | exact .inl rfl | exact .inr (.inl rfl) | exact .inr (.inr rfl)) rfl rfl) (a_cons (e_var (i := 1) rfl (by first | exact .inl rfl | exact .inr (.inl rfl) | exact .inr (.inr rfl)) rfl rfl) (a_nil) rfl) rfl) (many_cons (many_cons many_nil)) rfl rfl rfl))
theorem cal_rows_plus (gF : ∀ x : Str, x ∈ frees → mg x = none) (C_rules_and : Cal P w K mg base 4 "rules_and" 2 f_rules_and) {f : Addr} {fd : FuncData} (F : FnP K "rows_plus" s_rows_plus f fd) (hm : mg "rows_plus" = some (.ref f)) : Cal P w K mg base 5 "rows_plus" 2 f_rows_plus :=
  ⟨f, fd, ["one", "other"], rfl, fn_ok F sc_rows_plus (fun cdv A outer s H E hgd hr => b_rows_plus gF C_rules_and cdv A outer s H E hgd hr), hm, F.kp, F.bindsN fun _ _ _ _ _ _ us hl => match us, hl with | [_, _], _ => rfl⟩
theorem b_cell_of (gF : ∀ x : Str, x ∈ frees → mg x = none) {f : Addr} (cdv : Value) (A : Around) (outer : List Env) (s : Shared) (H : Hp) (E : XK) (hgd : A.guards = some []) (hr : Room 0 (A.deeper (envOfC "cell_of" (defScope s_cell_of) s.heap.objs.size f cdv))) :
    PSs (cxOf (L2.CX P w) P w K mg base ["row", "place"] "cell_of" (defScope s_cell_of) f cdv A outer s H E) (defBody s_cell_of) (rdS ⟨K, mg⟩ (fun cls d _ H => E cls d H) m_cell_of) :=
  have tk : Takes (cxOf (L2.CX P w) P w K mg base ["row", "place"] "cell_of" (defScope s_cell_of) f cdv A outer s H E) (fun cls d _ H => E cls d H) := takes_of rfl rfl rfl rfl
  ss_one (s_ret (g_get hr (g_dict (a_cons (g_ix hr (e_var (i := 0) rfl (by first | exact .inl rfl | exact .inr (.inl rfl) | exact .inr (.inr rfl)) rfl rfl) (e_int) (fun _ _ => rfl)) (a_nil) rfl) rfl rfl rfl rfl (gF "dict" (by decide))) (e_var (i := 1) rfl (by first | exact .inl rfl | exact .inr (.inl rfl) | exact .inr (.inr rfl)) rfl rfl) (e_int) rfl rfl rfl rfl))
theorem cal_cell_of (gF : ∀ x : Str, x ∈ frees → mg x = none) {f : Addr} {fd : FuncData} (F : FnP K "cell_of" s_cell_of f fd) (hm : mg "cell_of" = some (.ref f)) : Cal P w K mg base 1 "cell_of" 2 f_cell_of :=
  ⟨f, fd, ["row", "place"], rfl, fn_ok F sc_cell_of (fun cdv A outer s H E hgd hr => b_cell_of gF cdv A outer s H E hgd hr), hm, F.kp, F.bindsN fun _ _ _ _ _ _ us hl => match us, hl with | [_, _], _ => rfl⟩
theorem b_cells_led (gF : ∀ x : Str, x ∈ frees → mg x = none) {f : Addr} (cdv : Value) (A : Around) (outer : List Env) (s : Shared) (H : Hp) (E : XK) (hgd : A.guards = some []) (hr : Room 0 (A.deeper (envOfC "cells_led" (defScope s_cells_led) s.heap.objs.size f cdv))) :
    PSs (cxOf (L2.CX P w) P w K mg base ["rule", "cells", "many", "found", "place", "number", "late", "more"] "cells_led" (defScope s_cells_led) f cdv A outer s H E) (defBody s_cells_led) (rdS ⟨K, mg⟩ (fun cls d _ H => E cls d H) m_cells_led) :=
  have tk : Takes (cxOf (L2.CX P w) P w K mg base ["rule", "cells", "many", "found", "place", "number", "late", "more"] "cells_led" (defScope s_cells_led) f cdv A outer s H E) (fun cls d _ H => E cls d H) := takes_of rfl rfl rfl rfl
  ss_cons (s_par2 (i := 2) (j := 3) rfl sc_cells_led.nd rfl rfl (by decide) rfl rfl (a_cons (g_len (a_cons (e_var (i := 1) rfl (by first | exact .inl rfl | exact .inr (.inl rfl) | exact .inr (.inr rfl)) rfl rfl) (a_nil) rfl) rfl rfl rfl (gF "len" (by decide))) (a_cons (g_mul (e_lst (a_cons (e_int) (a_nil) rfl)) (g_len (a_cons (e_var (i := 1) rfl (by first | exact .inl rfl | exact .inr (.inl rfl) | exact .inr (.inr rfl)) rfl rfl) (a_nil) rfl) rfl rfl rfl (gF "len" (by decide)))) (a_nil) rfl) rfl) rfl rfl) (ss_cons (s_for (passes_of rfl) rfl (i_seq (g_ix hr (e_var (i := 0) rfl (by first | exact .inl rfl | exact .inr (.inl rfl) | exact .inr (.inr rfl)) rfl rfl) (e_int) (fun _ _ => rfl))) (t_tup rfl (ts_cons (t_name (i := 4) sc_cells_led.nd rfl (by first | exact .inl rfl | exact .inr rfl) (by first | exact .inl rfl | exact .inr rfl)) (ts_cons (t_name (i := 5) sc_cells_led.nd rfl (by first | exact .inl rfl | exact .inr rfl) (by first | exact .inl rfl | exact .inr rfl)) ts_nil rfl) rfl) rfl rfl) (ss_one (s_for (passes_of rfl) rfl (i_enum rfl (gF "enumerate" (by decide)) (a_cons (e_var (i := 1) rfl (by first | exact .inl rfl | exact .inr (.inl rfl) | exact .inr (.inr rfl)) rfl rfl) (a_nil) rfl) rfl) (t_tup rfl (ts_cons (t_name (i := 6) sc_cells_led.nd rfl (by first | exact .inl rfl | exact .inr rfl) (by first | exact .inl rfl | exact .inr rfl)) (ts_cons (t_name (i := 7) sc_cells_led.nd rfl (by first | exact .inl rfl | exact .inr rfl) (by first | exact .inl rfl | exact .inr rfl)) ts_nil rfl) rfl) rfl rfl) (ss_one (s_augIx (e_var (i := 3) rfl (by first | exact .inl rfl | exact .inr (.inl rfl) | exact .inr (.inr rfl)) rfl rfl) (g_mod (g_add (e_var (i := 6) rfl (by first | exact .inl rfl | exact .inr (.inl rfl) | exact .inr (.inr rfl)) rfl rfl) (e_var (i := 4) rfl (by first | exact .inl rfl | exact .inr (.inl rfl) | exact .inr (.inr rfl)) rfl rfl)) (e_var (i := 2) rfl (by first | exact .inl rfl | exact .inr (.inl rfl) | exact .inr (.inr rfl)) rfl rfl)) (g_mul (e_var (i := 5) rfl (by first | exact .inl rfl | exact .inr (.inl rfl) | exact .inr (.inr rfl)) rfl rfl) (e_var (i := 7) rfl (by first | exact .inl rfl | exact .inr (.inl rfl) | exact .inr (.inr rfl)) rfl rfl)) ip_addA aug_add (fun _ _ _ => rfl))) (fun _ => rfl))) (fun _ => rfl)) (ss_one (s_ret (g_tuple (a_cons (e_comp (own := [("number", 5)]) rfl sc_cells_led.nd (i_seq (e_var (i := 3) rfl (by first | exact .inl rfl | exact .inr (.inl rfl) | exact .inr (.inr rfl)) rfl rfl)) (blk_ok rfl (by kernel_rfl)) (by decide) (fun _ _ _ _ _ => (t_name (i := 5) sc_cells_led.nd rfl (by first | exact .inl rfl | exact .inr rfl) (by first | exact .inl rfl | exact .inr rfl))) (fun _ _ _ _ _ => t_nil) (fun _ _ _ _ _ => g_mod (e_var (i := 5) rfl (by first | exact .inl rfl | exact .inr (.inl rfl) | exact .inr (.inr rfl)) rfl rfl) (g_ix hr (e_var (i := 0) rfl (by first | exact .inl rfl | exact .inr (.inl rfl) | exact .inr (.inr rfl)) rfl rfl) (e_int) (fun _ _ => rfl))) (fun _ => rfl)) (a_nil) rfl) rfl rfl rfl (gF "tuple" (by decide))))))
theorem cal_cells_led (gF : ∀ x : Str, x ∈ frees → mg x = none) {f : Addr} {fd : FuncData} (F : FnP K "cells_led" s_cells_led f fd) (hm : mg "cells_led" = some (.ref f)) : Cal P w K mg base 1 "cells_led" 2 f_cells_led :=
  ⟨f, fd, ["rule", "cells"], rfl, fn_ok F sc_cells_led (fun cdv A outer s H E hgd hr => b_cells_led gF cdv A outer s H E hgd hr), hm, F.kp, F.bindsN fun _ _ _ _ _ _ us hl => match us, hl with | [_, _], _ => rfl⟩
theorem b_first_lit (gF : ∀ x : Str, x ∈ frees → mg x = none) {f : Addr} (cdv : Value) (A : Around) (outer : List Env) (s : Shared) (H : Hp) (E : XK) (hgd : A.guards = some []) (hr : Room 0 (A.deeper (envOfC "first_lit" (defScope s_first_lit) s.heap.objs.size f cdv))) :
    PSs (cxOf (L2.CX P w) P w K mg base ["cells", "place", "number"] "first_lit" (defScope s_first_lit) f cdv A outer s H E) (defBody s_first_lit) (rdS ⟨K, mg⟩ (fun cls d _ H => E cls d H) m_first_lit) :=
  have tk : Takes (cxOf (L2.CX P w) P w K mg base ["cells", "place", "number"] "first_lit" (defScope s_first_lit) f cdv A outer s H E) (fun cls d _ H => E cls d H) := takes_of rfl rfl rfl rfl
  ss_cons (s_for (passes_of rfl) rfl (i_enum rfl (gF "enumerate" (by decide)) (a_cons (e_var (i := 0) rfl (by first | exact .inl rfl | exact .inr (.inl rfl) | exact .inr (.inr rfl)) rfl rfl) (a_nil) rfl) rfl) (t_tup rfl (ts_cons (t_name (i := 1) sc_first_lit.nd rfl (by first | exact .inl rfl | exact .inr rfl) (by first | exact .inl rfl | exact .inr rfl)) (ts_cons (t_name (i := 2) sc_first_lit.nd rfl (by first | exact .inl rfl | exact .inr rfl) (by first | exact .inl rfl | exact .inr rfl)) ts_nil rfl) rfl) rfl rfl) (ss_one (s_if (h_ne hr (e_var (i := 2) rfl (by first | exact .inl rfl | exact .inr (.inl rfl) | exact .inr (.inr rfl)) rfl rfl) (e_int)) (ss_one (s_ret (e_var (i := 1) rfl (by first | exact .inl rfl | exact .inr (.inl rfl) | exact .inr (.inr rfl)) rfl rfl))) (ss_nil))) (fun _ => rfl)) (ss_one (s_ret (e_none)))
theorem cal_first_lit (gF : ∀ x : Str, x ∈ frees → mg x = none) {f : Addr} {fd : FuncData} (F : FnP K "first_lit" s_first_lit f fd) (hm : mg "first_lit" = some (.ref f)) : Cal P w K mg base 1 "first_lit" 1 f_first_lit :=
  ⟨f, fd, ["cells"], rfl, fn_ok F sc_first_lit (fun cdv A outer s H E hgd hr => b_first_lit gF cdv A outer s H E hgd hr), hm, F.kp, F.bindsN fun _ _ _ _ _ _ us hl => match us, hl with | [_], _ => rfl⟩
theorem b__law_source (gF : ∀ x : Str, x ∈ frees → mg x = none) {f : Addr} (cdv : Value) (A : Around) (outer : List Env) (s : Shared) (H : Hp) (E : XK) (hgd : A.guards = some []) (hr : Room 0 (A.deeper (envOfC "_law_source" (defScope s__law_source) s.heap.objs.size f cdv))) :
    PSs (cxOf (L2.CX P w) P w K mg base ["script", "mixed", "cell"] "_law_source" (defScope s__law_source) f cdv A outer s H E) (defBody s__law_source) (rdS ⟨K, mg⟩ (fun cls d _ H => E cls d H) m__law_source) :=
  have tk : Takes (cxOf (L2.CX P w) P w K mg base ["script", "mixed", "cell"] "_law_source" (defScope s__law_source) f cdv A outer s H E) (fun cls d _ H => E cls d H) := takes_of rfl rfl rfl rfl
  ss_cons (s_set (i := 1) sc__law_source.nd rfl (by first | exact .inl rfl | exact .inr rfl) (e_int) rfl (.inl rfl)) (ss_cons (s_for (passes_of rfl) rfl (i_scr (e_var (i := 0) rfl (by first | exact .inl rfl | exact .inr (.inl rfl) | exact .inr (.inr rfl)) rfl rfl)) (t_name (i := 2) sc__law_source.nd rfl (by first | exact .inl rfl | exact .inr rfl) (by first | exact .inl rfl | exact .inr rfl)) (ss_one (s_set (i := 1) sc__law_source.nd rfl (by first | exact .inl rfl | exact .inr rfl) (g_mod (g_toint (a_cons (g_add (g_add (g_mul (e_var (i := 1) rfl (by first | exact .inl rfl | exact .inr (.inl rfl) | exact .inr (.inr rfl)) rfl rfl) (e_int)) (g_mul (e_var (i := 2) rfl (by first | exact .inl rfl | exact .inr (.inl rfl) | exact .inr (.inr rfl)) rfl rfl) (e_int))) (e_int)) (a_nil) rfl) rfl rfl rfl (gF "int" (by decide))) (e_int)) rfl (.inl rfl))) (fun _ => rfl)) (ss_one (s_srcRet (e_rev (e_comp (own := [("cell", 2)]) rfl sc__law_source.nd (i_scr (e_var (i := 0) rfl (by first | exact .inl rfl | exact .inr (.inl rfl) | exact .inr (.inr rfl)) rfl rfl)) (blk_ok rfl (by kernel_rfl)) (by decide) (fun _ _ _ _ _ => (t_name (i := 2) sc__law_source.nd rfl (by first | exact .inl rfl | exact .inr rfl) (by first | exact .inl rfl | exact .inr rfl))) (fun _ _ _ _ _ => t_nil) (fun _ _ _ _ _ => g_abs (a_cons (e_var (i := 2) rfl (by first | exact .inl rfl | exact .inr (.inl rfl) | exact .inr (.inr rfl)) rfl rfl) (a_nil) rfl) rfl rfl rfl (gF "abs" (by decide))) (fun _ => rfl))) (e_var (i := 1) rfl (by first | exact .inl rfl | exact .inr (.inl rfl) | exact .inr (.inr rfl)) rfl rfl))))
theorem cal__law_source (gF : ∀ x : Str, x ∈ frees → mg x = none) {f : Addr} {fd : FuncData} (F : FnP K "_law_source" s__law_source f fd) (hm : mg "_law_source" = some (.ref f)) : Cal P w K mg base 1 "_law_source" 1 f__law_source :=
  ⟨f, fd, ["script"], rfl, fn_ok F sc__law_source (fun cdv A outer s H E hgd hr => b__law_source gF cdv A outer s H E hgd hr), hm, F.kp, F.bindsN fun _ _ _ _ _ _ us hl => match us, hl with | [_], _ => rfl⟩
theorem b__law_pick (gF : ∀ x : Str, x ∈ frees → mg x = none) {f : Addr} (cdv : Value) (A : Around) (outer : List Env) (s : Shared) (H : Hp) (E : XK) (hgd : A.guards = some []) (hr : Room 0 (A.deeper (envOfC "_law_pick" (defScope s__law_pick) s.heap.objs.size f cdv))) :
    PSs (cxOf (L2.CX P w) P w K mg base ["source", "many", "left", "mixed"] "_law_pick" (defScope s__law_pick) f cdv A outer s H E) (defBody s__law_pick) (rdS ⟨K, mg⟩ (fun cls d _ H => E cls d H) m__law_pick) :=
  have tk : Takes (cxOf (L2.CX P w) P w K mg base ["source", "many", "left", "mixed"] "_law_pick" (defScope s__law_pick) f cdv A outer s H E) (fun cls d _ H => E cls d H) := takes_of rfl rfl rfl rfl
  ss_cons (s_while (passes_of rfl) (PW.pt (b_and (h_gt (e_var (i := 1) rfl (by first | exact .inl rfl | exact .inr (.inl rfl) | exact .inr (.inr rfl)) rfl rfl) (e_int)) (b_and (h_lt (e_srcGet (u1 hr) (e_var (i := 0) rfl (by first | exact .inl rfl | exact .inr (.inl rfl) | exact .inr (.inr rfl)) rfl rfl) (fun _ _ => rfl)) (e_int)) (h_and1 (h_gt (e_srcLen (u1 hr) rfl (gF "len" (by decide)) (e_var (i := 0) rfl (by first | exact .inl rfl | exact .inr (.inl rfl) | exact .inr (.inr rfl)) rfl rfl) (fun _ _ => rfl) rfl rfl) (e_int)))))) (ss_one (s_srcPop (u1 hr) (e_var (i := 0) rfl (by first | exact .inl rfl | exact .inr (.inl rfl) | exact .inr (.inr rfl)) rfl rfl) (e_var (i := 0) rfl (by first | exact .inl rfl | exact .inr (.inl rfl) | exact .inr (.inr rfl)) rfl rfl) (fun _ _ => rfl) rfl rfl rfl))) (ss_cons (s_set (i := 2) sc__law_pick.nd rfl (by first | exact .inl rfl | exact .inr rfl) (e_srcGet (u1 hr) (e_var (i := 0) rfl (by first | exact .inl rfl | exact .inr (.inl rfl) | exact .inr (.inr rfl)) rfl rfl) (fun _ _ => rfl)) rfl (.inl rfl)) (ss_cons (s_if (PW.pt (b_or (h_lt (e_var (i := 1) rfl (by first | exact .inl rfl | exact .inr (.inl rfl) | exact .inr (.inr rfl)) rfl rfl) (e_int)) (h_or1 (h_gt (e_var (i := 2) rfl (by first | exact .inl rfl | exact .inr (.inl rfl) | exact .inr (.inr rfl)) rfl rfl) (e_int))))) (ss_cons (s_srcSet (u1 hr) (g_div (e_var (i := 2) rfl (by first | exact .inl rfl | exact .inr (.inl rfl) | exact .inr (.inr rfl)) rfl rfl) (g_max (a_cons (e_int) (a_cons (e_var (i := 1) rfl (by first | exact .inl rfl | exact .inr (.inl rfl) | exact .inr (.inr rfl)) rfl rfl) (a_nil) rfl) rfl) rfl rfl rfl rfl (gF "max" (by decide)))) (e_var (i := 0) rfl (by first | exact .inl rfl | exact .inr (.inl rfl) | exact .inr (.inr rfl)) rfl rfl) rfl) (ss_one (s_ret (g_mod (g_toint (a_cons (e_var (i := 2) rfl (by first | exact .inl rfl | exact .inr (.inl rfl) | exact .inr (.inr rfl)) rfl rfl) (a_nil) rfl) rfl rfl rfl (gF "int" (by decide))) (g_max (a_cons (e_int) (a_cons (e_var (i := 1) rfl (by first | exact .inl rfl | exact .inr (.inl rfl) | exact .inr (.inr rfl)) rfl rfl) (a_nil) rfl) rfl) rfl rfl rfl rfl (gF "max" (by decide))))))) (ss_nil)) (ss_cons (s_srcSet (u1 hr) (g_add (e_srcGet (u1 hr) (e_var (i := 0) rfl (by first | exact .inl rfl | exact .inr (.inl rfl) | exact .inr (.inr rfl)) rfl rfl) (fun _ _ => rfl)) (e_int)) (e_var (i := 0) rfl (by first | exact .inl rfl | exact .inr (.inl rfl) | exact .inr (.inr rfl)) rfl rfl) rfl) (ss_cons (s_set (i := 3) sc__law_pick.nd rfl (by first | exact .inl rfl | exact .inr rfl) (g_mod (g_toint (a_cons (g_add (e_srcGet (u1 hr) (e_var (i := 0) rfl (by first | exact .inl rfl | exact .inr (.inl rfl) | exact .inr (.inr rfl)) rfl rfl) (fun _ _ => rfl)) (g_mul (e_srcGet (u1 hr) (e_var (i := 0) rfl (by first | exact .inl rfl | exact .inr (.inl rfl) | exact .inr (.inr rfl)) rfl rfl) (fun _ _ => rfl)) (e_int))) (a_nil) rfl) rfl rfl rfl (gF "int" (by decide))) (e_int)) rfl (.inl rfl)) (ss_cons (s_set (i := 3) sc__law_pick.nd rfl (by first | exact .inl rfl | exact .inr rfl) (g_mod (g_toint (a_cons (g_add (g_mul (e_var (i := 3) rfl (by first | exact .inl rfl | exact .inr (.inl rfl) | exact .inr (.inr rfl)) rfl rfl) (e_var (i := 3) rfl (by first | exact .inl rfl | exact .inr (.inl rfl) | exact .inr (.inr rfl)) rfl rfl)) (g_mul (e_srcGet (u1 hr) (e_var (i := 0) rfl (by first | exact .inl rfl | exact .inr (.inl rfl) | exact .inr (.inr rfl)) rfl rfl) (fun _ _ => rfl)) (e_int))) (a_nil) rfl) rfl rfl rfl (gF "int" (by decide))) (e_int)) rfl (.inl rfl)) (ss_cons (s_srcSet (u1 hr) (e_var (i := 3) rfl (by first | exact .inl rfl | exact .inr (.inl rfl) | exact .inr (.inr rfl)) rfl rfl) (e_var (i := 0) rfl (by first | exact .inl rfl | exact .inr (.inl rfl) | exact .inr (.inr rfl)) rfl rfl) rfl) (ss_one (s_ret (g_mod (g_toint (a_cons (g_div (e_var (i := 3) rfl (by first | exact .inl rfl | exact .inr (.inl rfl) | exact .inr (.inr rfl)) rfl rfl) (e_int)) (a_nil) rfl) rfl rfl rfl (gF "int" (by decide))) (e_var (i := 1) rfl (by first | exact .inl rfl | exact .inr (.inl rfl) | exact .inr (.inr rfl)) rfl rfl))))))))))
theorem cal__law_pick (gF : ∀ x : Str, x ∈ frees → mg x = none) {f : Addr} {fd : FuncData} (F : FnP K "_law_pick" s__law_pick f fd) (hm : mg "_law_pick" = some (.ref f)) : Cal P w K mg base 1 "_law_pick" 2 f__law_pick :=
  ⟨f, fd, ["source", "many"], rfl, fn_ok F sc__law_pick (fun cdv A outer s H E hgd hr => b__law_pick gF cdv A outer s H E hgd hr), hm, F.kp, F.bindsN fun _ _ _ _ _ _ us hl => match us, hl with | [_, _], _ => rfl⟩
theorem b__law_of (gF : ∀ x : Str, x ∈ frees → mg x = none) (C__law_pick : Cal P w K mg base 1 "_law_pick" 2 f__law_pick) {f : Addr} (cdv : Value) (A : Around) (outer : List Env) (s : Shared) (H : Hp) (E : XK) (hgd : A.guards = some []) (hr : Room 1 (A.deeper (envOfC "_law_of" (defScope s__law_of) s.heap.objs.size f cdv))) :
    PSs (cxOf (L2.CX P w) P w K mg base ["source", "some"] "_law_of" (defScope s__law_of) f cdv A outer s H E) (defBody s__law_of) (rdS ⟨K, mg⟩ (fun cls d _ H => E cls d H) m__law_of) :=
  have tk : Takes (cxOf (L2.CX P w) P w K mg base ["source", "some"] "_law_of" (defScope s__law_of) f cdv A outer s H E) (fun cls d _ H => E cls d H) := takes_of rfl rfl rfl rfl
  ss_one (s_ret (g_ix hr (e_var (i := 1) rfl (by first | exact .inl rfl | exact .inr (.inl rfl) | exact .inr (.inr rfl)) rfl rfl) (e_fn C__law_pick hgd (hr.mono (by decide)) rfl tk (a_cons (e_var (i := 0) rfl (by first | exact .inl rfl | exact .inr (.inl rfl) | exact .inr (.inr rfl)) rfl rfl) (a_cons (g_len (a_cons (e_var (i := 1) rfl (by first | exact .inl rfl | exact .inr (.inl rfl) | exact .inr (.inr rfl)) rfl rfl) (a_nil) rfl) rfl rfl rfl (gF "len" (by decide))) (a_nil) rfl) rfl) (many_cons (many_cons many_nil)) rfl rfl rfl) (fun _ _ => rfl)))
theorem cal__law_of (gF : ∀ x : Str, x ∈ frees → mg x = none) (C__law_pick : Cal P w K mg base 1 "_law_pick" 2 f__law_pick) {f : Addr} {fd : FuncData} (F : FnP K "_law_of" s__law_of f fd) (hm : mg "_law_of" = some (.ref f)) : Cal P w K mg base 2 "_law_of" 2 f__law_of :=
  ⟨f, fd, ["source", "some"], rfl, fn_ok F sc__law_of (fun cdv A outer s H E hgd hr => b__law_of gF C__law_pick cdv A outer s H E hgd hr), hm, F.kp, F.bindsN fun _ _ _ _ _ _ us hl => match us, hl with | [_, _], _ => rfl⟩
theorem b__law_form (gF : ∀ x : Str, x ∈ frees → mg x = none) {f : Addr} (cdv : Value) (A : Around) (outer : List Env) (s : Shared) (H : Hp) (E : XK) (hgd : A.guards = some []) (hr : Room 0 (A.deeper (envOfC "_law_form" (defScope s__law_form) s.heap.objs.size f cdv))) :
    PSs (cxOf (L2.CX P w) P w K mg base ["m", "terms", "found", "place", "number"] "_law_form" (defScope s__law_form) f cdv A outer s H E) (defBody s__law_form) (rdS ⟨K, mg⟩ (fun cls d _ H => E cls d H) m__law_form) :=
  have tk : Takes (cxOf (L2.CX P w) P w K mg base ["m", "terms", "found", "place", "number"] "_law_form" (defScope s__law_form) f cdv A outer s H E) (fun cls d _ H => E cls d H) := takes_of rfl rfl rfl rfl
  ss_cons (s_set (i := 2) sc__law_form.nd rfl (by first | exact .inl rfl | exact .inr rfl) (g_dict0) rfl (.inl rfl)) (ss_cons (s_for (passes_of rfl) rfl (i_seq (e_var (i := 1) rfl (by first | exact .inl rfl | exact .inr (.inl rfl) | exact .inr (.inr rfl)) rfl rfl)) (t_tup rfl (ts_cons (t_name (i := 3) sc__law_form.nd rfl (by first | exact .inl rfl | exact .inr rfl) (by first | exact .inl rfl | exact .inr rfl)) (ts_cons (t_name (i := 4) sc__law_form.nd rfl (by first | exact .inl rfl | exact .inr rfl) (by first | exact .inl rfl | exact .inr rfl)) ts_nil rfl) rfl) rfl rfl) (ss_one (s_setIx (u1 hr) (g_mod (g_toint (a_cons (g_add (g_get hr (e_var (i := 2) rfl (by first | exact .inl rfl | exact .inr (.inl rfl) | exact .inr (.inr rfl)) rfl rfl) (e_var (i := 3) rfl (by first | exact .inl rfl | exact .inr (.inl rfl) | exact .inr (.inr rfl)) rfl rfl) (e_int) rfl rfl rfl rfl) (e_var (i := 4) rfl (by first | exact .inl rfl | exact .inr (.inl rfl) | exact .inr (.inr rfl)) rfl rfl)) (a_nil) rfl) rfl rfl rfl (gF "int" (by decide))) (e_var (i := 0) rfl (by first | exact .inl rfl | exact .inr (.inl rfl) | exact .inr (.inr rfl)) rfl rfl)) (e_var (i := 2) rfl (by first | exact .inl rfl | exact .inr (.inl rfl) | exact .inr (.inr rfl)) rfl rfl) (e_var (i := 3) rfl (by first | exact .inl rfl | exact .inr (.inl rfl) | exact .inr (.inr rfl)) rfl rfl) (fun _ => rfl) rfl rfl rfl)) (fun _ => rfl)) (ss_one (s_ret (e_tup (a_cons (e_var (i := 0) rfl (by first | exact .inl rfl | exact .inr (.inl rfl) | exact .inr (.inr rfl)) rfl rfl) (a_cons (g_tuple (a_cons (e_comp (own := [("place", 3)]) rfl sc__law_form.nd (i_seq (g_sorted (a_cons (e_var (i := 2) rfl (by first | exact .inl rfl | exact .inr (.inl rfl) | exact .inr (.inr rfl)) rfl rfl) (a_nil) rfl) rfl rfl rfl rfl (gF "sorted" (by decide)))) (blk_ok rfl (by kernel_rfl)) (by decide) (fun _ _ _ _ _ => (t_name (i := 3) sc__law_form.nd rfl (by first | exact .inl rfl | exact .inr rfl) (by first | exact .inl rfl | exact .inr rfl))) (fun _ _ _ _ _ => pts_one (h_ne hr (g_ix hr (e_var (i := 2) rfl (by first | exact .inl rfl | exact .inr (.inl rfl) | exact .inr (.inr rfl)) rfl rfl) (e_var (i := 3) rfl (by first | exact .inl rfl | exact .inr (.inl rfl) | exact .inr (.inr rfl)) rfl rfl) (fun _ _ => rfl)) (e_int))) (fun _ _ _ _ _ => e_tup (a_cons (e_var (i := 3) rfl (by first | exact .inl rfl | exact .inr (.inl rfl) | exact .inr (.inr rfl)) rfl rfl) (a_cons (g_ix hr (e_var (i := 2) rfl (by first | exact .inl rfl | exact .inr (.inl rfl) | exact .inr (.inr rfl)) rfl rfl) (e_var (i := 3) rfl (by first | exact .inl rfl | exact .inr (.inl rfl) | exact .inr (.inr rfl)) rfl rfl) (fun _ _ => rfl)) (a_nil) rfl) rfl)) (fun _ => rfl)) (a_nil) rfl) rfl rfl rfl (gF "tuple" (by decide))) (a_nil) rfl) rfl)))))
theorem cal__law_form (gF : ∀ x : Str, x ∈ frees → mg x = none) {f : Addr} {fd : FuncData} (F : FnP K "_law_form" s__law_form f fd) (hm : mg "_law_form" = some (.ref f)) : Cal P w K mg base 1 "_law_form" 2 f__law_form :=
  ⟨f, fd, ["m", "terms"], rfl, fn_ok F sc__law_form (fun cdv A outer s H E hgd hr => b__law_form gF cdv A outer s H E hgd hr), hm, F.kp, F.bindsN fun _ _ _ _ _ _ us hl => match us, hl with | [_, _], _ => rfl⟩
theorem b__law_rule (gF : ∀ x : Str, x ∈ frees → mg x = none) (C__law_pick : Cal P w K mg base 1 "_law_pick" 2 f__law_pick) (C__law_form : Cal P w K mg base 1 "_law_form" 2 f__law_form) {f : Addr} (cdv : Value) (A : Around) (outer : List Env) (s : Shared) (H : Hp) (E : XK) (hgd : A.guards = some []) (hr : Room 1 (A.deeper (envOfC "_law_rule" (defScope s__law_rule) s.heap.objs.size f cdv))) :
    PSs (cxOf (L2.CX P w) P w K mg base ["source", "m", "many", "wide", "terms", "lap"] "_law_rule" (defScope s__law_rule) f cdv A outer s H E) (defBody s__law_rule) (rdS ⟨K, mg⟩ (fun cls d _ H => E cls d H) m__law_rule) :=
  have tk : Takes (cxOf (L2.CX P w) P w K mg base ["source", "m", "many", "wide", "terms", "lap"] "_law_rule" (defScope s__law_rule) f cdv A outer s H E) (fun cls d _ H => E cls d H) := takes_of rfl rfl rfl rfl
  ss_cons (s_set (i := 4) sc__law_rule.nd rfl (by first | exact .inl rfl | exact .inr rfl) (e_lst (a_nil)) rfl (.inl rfl)) (ss_cons (s_for (passes_of rfl) rfl (i_range1 rfl (gF "range" (by decide)) (a_cons (e_fn C__law_pick hgd (hr.mono (by decide)) rfl tk (a_cons (e_var (i := 0) rfl (by first | exact .inl rfl | exact .inr (.inl rfl) | exact .inr (.inr rfl)) rfl rfl) (a_cons (g_add (e_var (i := 2) rfl (by first | exact .inl rfl | exact .inr (.inl rfl) | exact .inr (.inr rfl)) rfl rfl) (e_int)) (a_nil) rfl) rfl) (many_cons (many_cons many_nil)) rfl rfl rfl) (a_nil) rfl) rfl) (t_name (i := 5) sc__law_rule.nd rfl (by first | exact .inl rfl | exact .inr rfl) (by first | exact .inl rfl | exact .inr rfl)) (ss_one (s_drop (g_append (e_var (i := 4) rfl (by first | exact .inl rfl | exact .inr (.inl rfl) | exact .inr (.inr rfl)) rfl rfl) (a_cons (e_tup (a_cons (g_sub (e_fn C__law_pick hgd (hr.mono (by decide)) rfl tk (a_cons (e_var (i := 0) rfl (by first | exact .inl rfl | exact .inr (.inl rfl) | exact .inr (.inr rfl)) rfl rfl) (a_cons (g_add (g_mul (e_int) (e_var (i := 3) rfl (by first | exact .inl rfl | exact .inr (.inl rfl) | exact .inr (.inr rfl)) rfl rfl)) (e_int)) (a_nil) rfl) rfl) (many_cons (many_cons many_nil)) rfl rfl rfl) (e_var (i := 3) rfl (by first | exact .inl rfl | exact .inr (.inl rfl) | exact .inr (.inr rfl)) rfl rfl)) (a_cons (e_fn C__law_pick hgd (hr.mono (by decide)) rfl tk (a_cons (e_var (i := 0) rfl (by first | exact .inl rfl | exact .inr (.inl rfl) | exact .inr (.inr rfl)) rfl rfl) (a_cons (g_mul (e_int) (e_var (i := 1) rfl (by first | exact .inl rfl | exact .inr (.inl rfl) | exact .inr (.inr rfl)) rfl rfl)) (a_nil) rfl) rfl) (many_cons (many_cons many_nil)) rfl rfl rfl) (a_nil) rfl) rfl)) (a_nil) rfl) (fun _ => rfl) rfl rfl rfl rfl) rfl)) (fun _ => rfl)) (ss_one (s_ret (e_fn C__law_form hgd (hr.mono (by decide)) rfl tk (a_cons (e_var (i := 1) rfl (by first | exact .inl rfl | exact .inr (.inl rfl) | exact .inr (.inr rfl)) rfl rfl) (a_cons (e_var (i := 4) rfl (by first | exact .inl rfl | exact .inr (.inl rfl) | exact .inr (.inr rfl)) rfl rfl) (a_nil) rfl) rfl) (many_cons (many_cons many_nil)) rfl rfl rfl))))
theorem cal__law_rule (gF : ∀ x : Str, x ∈ frees → mg x = none) (C__law_pick : Cal P w K mg base 1 "_law_pick" 2 f__law_pick) (C__law_form : Cal P w K mg base 1 "_law_form" 2 f__law_form) {f : Addr} {fd : FuncData} (F : FnP K "_law_rule" s__law_rule f fd) (hm : mg "_law_rule" = some (.ref f)) : Cal P w K mg base 2 "_law_rule" 4 f__law_rule :=
  ⟨f, fd, ["source", "m", "many", "wide"], rfl, fn_ok F sc__law_rule (fun cdv A outer s H E hgd hr => b__law_rule gF C__law_pick C__law_form cdv A outer s H E hgd hr), hm, F.kp, F.bindsN fun _ _ _ _ _ _ us hl => match us, hl with | [_, _, _, _], _ => rfl⟩
theorem b__law_at (gF : ∀ x : Str, x ∈ frees → mg x = none) {f : Addr} (cdv : Value) (A : Around) (outer : List Env) (s : Shared) (H : Hp) (E : XK) (hgd : A.guards = some []) (hr : Room 0 (A.deeper (envOfC "_law_at" (defScope s__law_at) s.heap.objs.size f cdv))) :
    PSs (cxOf (L2.CX P w) P w K mg base ["row", "place"] "_law_at" (defScope s__law_at) f cdv A outer s H E) (defBody s__law_at) (rdS ⟨K, mg⟩ (fun cls d _ H => E cls d H) m__law_at) :=
  have tk : Takes (cxOf (L2.CX P w) P w K mg base ["row", "place"] "_law_at" (defScope s__law_at) f cdv A outer s H E) (fun cls d _ H => E cls d H) := takes_of rfl rfl rfl rfl
  ss_one (s_ret (g_get hr (g_dict (a_cons (g_ix hr (e_var (i := 0) rfl (by first | exact .inl rfl | exact .inr (.inl rfl) | exact .inr (.inr rfl)) rfl rfl) (e_int) (fun _ _ => rfl)) (a_nil) rfl) rfl rfl rfl rfl (gF "dict" (by decide))) (e_var (i := 1) rfl (by first | exact .inl rfl | exact .inr (.inl rfl) | exact .inr (.inr rfl)) rfl rfl) (e_int) rfl rfl rfl rfl))
theorem cal__law_at (gF : ∀ x : Str, x ∈ frees → mg x = none) {f : Addr} {fd : FuncData} (F : FnP K "_law_at" s__law_at f fd) (hm : mg "_law_at" = some (.ref f)) : Cal P w K mg base 1 "_law_at" 2 f__law_at :=
  ⟨f, fd, ["row", "place"], rfl, fn_ok F sc__law_at (fun cdv A outer s H E hgd hr => b__law_at gF cdv A outer s H E hgd hr), hm, F.kp, F.bindsN fun _ _ _ _ _ _ us hl => match us, hl with | [_, _], _ => rfl⟩
theorem b__law_led_at (gF : ∀ x : Str, x ∈ frees → mg x = none) (C__law_at : Cal P w K mg base 1 "_law_at" 2 f__law_at) {f : Addr} (cdv : Value) (A : Around) (outer : List Env) (s : Shared) (H : Hp) (E : XK) (hgd : A.guards = some []) (hr : Room 1 (A.deeper (envOfC "_law_led_at" (defScope s__law_led_at) s.heap.objs.size f cdv))) :
    PSs (cxOf (L2.CX P w) P w K mg base ["rule", "row", "place", "late", "number"] "_law_led_at" (defScope s__law_led_at) f cdv A outer s H E) (defBody s__law_led_at) (rdS ⟨K, mg⟩ (fun cls d _ H => E cls d H) m__law_led_at) :=
  have tk : Takes (cxOf (L2.CX P w) P w K mg base ["rule", "row", "place", "late", "number"] "_law_led_at" (defScope s__law_led_at) f cdv A outer s H E) (fun cls d _ H => E cls d H) := takes_of rfl rfl rfl rfl
  ss_one (s_ret (g_mod (g_toint (a_cons (g_sum (a_cons (e_comp (own := [("late", 3), ("number", 4)]) rfl sc__law_led_at.nd (i_seq (g_ix hr (e_var (i := 0) rfl (by first | exact .inl rfl | exact .inr (.inl rfl) | exact .inr (.inr rfl)) rfl rfl) (e_int) (fun _ _ => rfl))) (blk_ok rfl (by kernel_rfl)) (by decide) (fun _ _ _ _ _ => (t_tup rfl (ts_cons (t_name (i := 3) sc__law_led_at.nd rfl (by first | exact .inl rfl | exact .inr rfl) (by first | exact .inl rfl | exact .inr rfl)) (ts_cons (t_name (i := 4) sc__law_led_at.nd rfl (by first | exact .inl rfl | exact .inr rfl) (by first | exact .inl rfl | exact .inr rfl)) ts_nil rfl) rfl) rfl rfl)) (fun _ _ _ _ _ => t_nil) (fun _ _ _ _ _ => g_mul (e_var (i := 4) rfl (by first | exact .inl rfl | exact .inr (.inl rfl) | exact .inr (.inr rfl)) rfl rfl) (e_fn C__law_at hgd (hr.mono (by decide)) rfl takes0 (a_cons (e_var (i := 1) rfl (by first | exact .inl rfl | exact .inr (.inl rfl) | exact .inr (.inr rfl)) rfl rfl) (a_cons (g_sub (e_var (i := 2) rfl (by first | exact .inl rfl | exact .inr (.inl rfl) | exact .inr (.inr rfl)) rfl rfl) (e_var (i := 3) rfl (by first | exact .inl rfl | exact .inr (.inl rfl) | exact .inr (.inr rfl)) rfl rfl)) (a_nil) rfl) rfl) (many_cons (many_cons many_nil)) rfl rfl rfl)) (fun _ => rfl)) (a_nil) rfl) rfl rfl rfl rfl (gF "sum" (by decide))) (a_nil) rfl) rfl rfl rfl (gF "int" (by decide))) (g_ix hr (e_var (i := 0) rfl (by first | exact .inl rfl | exact .inr (.inl rfl) | exact .inr (.inr rfl)) rfl rfl) (e_int) (fun _ _ => rfl))))
theorem cal__law_led_at (gF : ∀ x : Str, x ∈ frees → mg x = none) (C__law_at : Cal P w K mg base 1 "_law_at" 2 f__law_at) {f : Addr} {fd : FuncData} (F : FnP K "_law_led_at" s__law_led_at f fd) (hm : mg "_law_led_at" = some (.ref f)) : Cal P w K mg base 2 "_law_led_at" 3 f__law_led_at :=
  ⟨f, fd, ["rule", "row", "place"], rfl, fn_ok F sc__law_led_at (fun cdv A outer s H E hgd hr => b__law_led_at gF C__law_at cdv A outer s H E hgd hr), hm, F.kp, F.bindsN fun _ _ _ _ _ _ us hl => match us, hl with | [_, _, _], _ => rfl⟩
theorem b__law_told (gF : ∀ x : Str, x ∈ frees → mg x = none) (C_row_led : Cal P w K mg base 5 "row_led" 2 f_row_led) (C_rows_plus : Cal P w K mg base 5 "rows_plus" 2 f_rows_plus) (E_TooGreat : Err1 P w K mg "TooGreat" "number") {f : Addr} (cdv : Value) (A : Around) (outer : List Env) (s : Shared) (H : Hp) (E : XK) (hgd : A.guards = some []) (hr : Room 5 (A.deeper (envOfC "_law_told" (defScope s__law_told) s.heap.objs.size f cdv))) :
    PSs (cxOf (L2.CX P w) P w K mg base ["call", "one", "other", "error"] "_law_told" (defScope s__law_told) f cdv A outer s H E) (defBody s__law_told) (rdS ⟨K, mg⟩ (fun cls d _ H => E cls d H) m__law_told) :=
  have tk : Takes (cxOf (L2.CX P w) P w K mg base ["call", "one", "other", "error"] "_law_told" (defScope s__law_told) f cdv A outer s H E) (fun cls d _ H => E cls d H) := takes_of rfl rfl rfl rfl
  ss_one (s_tryE (i := 3) (its := [.s "great", .f "number"]) rfl rfl E_TooGreat sc__law_told.nd rfl rfl rfl rfl tk (fun W pn xe tk _ => ss_one (s_ret (e_tup (a_cons (e_str) (a_cons (e_callV (k := 5) (i := 0) (tabL_ok (all_cons ⟨_, by decide, C_row_led⟩ (all_cons ⟨_, by decide, C_rows_plus⟩ all_nil))) hgd hr rfl (by first | exact .inl rfl | exact .inr (.inl rfl) | exact .inr (.inr rfl)) tk (a_cons (e_var (i := 1) rfl (by first | exact .inl rfl | exact .inr (.inl rfl) | exact .inr (.inr rfl)) rfl rfl) (a_cons (e_var (i := 2) rfl (by first | exact .inl rfl | exact .inr (.inl rfl) | exact .inr (.inr rfl)) rfl rfl) (a_nil) rfl) rfl) (many_cons (many_cons many_nil)) rfl rfl rfl rfl) (a_nil) rfl) rfl)))) (fun C xf no a oe cls d pn hz hfv => pa_cons pe_str (pa_cons (pe_xf xf no hz hfv (pe_var (i := 3) rfl (by first | exact .inl rfl | exact .inr (.inl rfl) | exact .inr (.inr rfl)) rfl rfl) rfl) (pa_nil) rfl) rfl))
theorem cal__law_told (gF : ∀ x : Str, x ∈ frees → mg x = none) (C_row_led : Cal P w K mg base 5 "row_led" 2 f_row_led) (C_rows_plus : Cal P w K mg base 5 "rows_plus" 2 f_rows_plus) (E_TooGreat : Err1 P w K mg "TooGreat" "number") {f : Addr} {fd : FuncData} (F : FnP K "_law_told" s__law_told f fd) (hm : mg "_law_told" = some (.ref f)) : Cal P w K mg base 6 "_law_told" 3 f__law_told :=
  ⟨f, fd, ["call", "one", "other"], rfl, fn_ok F sc__law_told (fun cdv A outer s H E hgd hr => b__law_told gF C_row_led C_rows_plus E_TooGreat cdv A outer s H E hgd hr), hm, F.kp, F.bindsN fun _ _ _ _ _ _ us hl => match us, hl with | [_, _, _], _ => rfl⟩
theorem b_law (gF : ∀ x : Str, x ∈ frees → mg x = none) (C__law_source : Cal P w K mg base 1 "_law_source" 1 f__law_source) (C__law_of : Cal P w K mg base 2 "_law_of" 2 f__law_of) (C__law_rule : Cal P w K mg base 2 "_law_rule" 4 f__law_rule) (C_rule_moved : Cal P w K mg base 1 "rule_moved" 2 f_rule_moved) (C_row_led : Cal P w K mg base 5 "row_led" 2 f_row_led) (C_rows_plus : Cal P w K mg base 5 "rows_plus" 2 f_rows_plus) (C_cell_of : Cal P w K mg base 1 "cell_of" 2 f_cell_of) (C__law_led_at : Cal P w K mg base 2 "_law_led_at" 3 f__law_led_at) (C__law_form : Cal P w K mg base 1 "_law_form" 2 f__law_form) (C__law_at : Cal P w K mg base 1 "_law_at" 2 f__law_at) (C__law_pick : Cal P w K mg base 1 "_law_pick" 2 f__law_pick) (C_rule_turned : Cal P w K mg base 2 "rule_turned" 1 f_rule_turned) (C_rule_split : Cal P w K mg base 2 "rule_split" 2 f_rule_split) (C_cells_led : Cal P w K mg base 1 "cells_led" 2 f_cells_led) (C_first_lit : Cal P w K mg base 1 "first_lit" 1 f_first_lit) (C__law_told : Cal P w K mg base 6 "_law_told" 3 f__law_told) (C_span_of : Cal P w K mg base 1 "span_of" 1 f_span_of) (C_rule_told : Cal P w K mg base 1 "rule_told" 2 f_rule_told) {f : Addr} (cdv : Value) (A : Around) (outer : List Env) (s : Shared) (H : Hp) (E : XK) (hgd : A.guards = some []) (hr : Room 6 (A.deeper (envOfC "law" (defScope s_law) s.heap.objs.size f cdv))) :
    PSs (cxOf (L2.CX P w) P w K mg base ["script", "source", "m", "rule", "row", "other", "far", "led", "both", "looks", "due", "much", "part", "many", "cells", "told", "place", "lit", "wide", "ends", "step", "line", "great", "edge", "late", "lap", "number", "k", "cell"] "law" (defScope s_law) f cdv A outer s H E) (defBody s_law) (rdS ⟨K, mg⟩ (fun cls d _ H => E cls d H) m_law) :=
  have tk : Takes (cxOf (L2.CX P w) P w K mg base ["script", "source", "m", "rule", "row", "other", "far", "led", "both", "looks", "due", "much", "part", "many", "cells", "told", "place", "lit", "wide", "ends", "step", "line", "great", "edge", "late", "lap", "number", "k", "cell"] "law" (defScope s_law) f cdv A outer s H E) (fun cls d _ H => E cls d H) := takes_of rfl rfl rfl rfl
  ss_cons (s_set (i := 1) sc_law.nd rfl (by first | exact .inl rfl | exact .inr rfl) (e_fn C__law_source hgd (hr.mono (by decide)) rfl tk (a_cons (e_var (i := 0) rfl (by first | exact .inl rfl | exact .inr (.inl rfl) | exact .inr (.inr rfl)) rfl rfl) (a_nil) rfl) (many_cons many_nil) rfl rfl rfl) rfl (.inl rfl)) (ss_cons (s_set (i := 2) sc_law.nd rfl (by first | exact .inl rfl | exact .inr rfl) (e_fn C__law_of hgd (hr.mono (by decide)) rfl tk (a_cons (e_var (i := 1) rfl (by first | exact .inl rfl | exact .inr (.inl rfl) | exact .inr (.inr rfl)) rfl rfl) (a_cons (e_lst (a_cons (e_int) (a_cons (e_int) (a_cons (e_int) (a_cons (e_int) (a_cons (e_int) (a_cons (e_int) (a_cons (e_int) (a_cons (e_int) (a_cons (e_int) (a_cons (e_int) (a_nil) rfl) rfl) rfl) rfl) rfl) rfl) rfl) rfl) rfl) rfl)) (a_nil) rfl) rfl) (many_cons (many_cons many_nil)) rfl rfl rfl) rfl (.inl rfl)) (ss_cons (s_parN (is := [3, 4, 5]) rfl (pgs_cons (pg_name (i := 3) sc_law.nd rfl (by first | exact .inl rfl | exact .inr rfl) (by first | exact .inl rfl | exact .inr rfl)) (pgs_cons (pg_name (i := 4) sc_law.nd rfl (by first | exact .inl rfl | exact .inr rfl) (by first | exact .inl rfl | exact .inr rfl)) (pgs_cons (pg_name (i := 5) sc_law.nd rfl (by first | exact .inl rfl | exact .inr rfl) (by first | exact .inl rfl | exact .inr rfl)) pgs_nil rfl) rfl) rfl) rfl rfl (a_cons (e_fn C__law_rule hgd (hr.mono (by decide)) rfl tk (a_cons (e_var (i := 1) rfl (by first | exact .inl rfl | exact .inr (.inl rfl) | exact .inr (.inr rfl)) rfl rfl) (a_cons (e_var (i := 2) rfl (by first | exact .inl rfl | exact .inr (.inl rfl) | exact .inr (.inr rfl)) rfl rfl) (a_cons (e_int) (a_cons (e_int) (a_nil) rfl) rfl) rfl) rfl) (many_cons (many_cons (many_cons (many_cons many_nil)))) rfl rfl rfl) (a_cons (e_fn C__law_rule hgd (hr.mono (by decide)) rfl tk (a_cons (e_var (i := 1) rfl (by first | exact .inl rfl | exact .inr (.inl rfl) | exact .inr (.inr rfl)) rfl rfl) (a_cons (e_var (i := 2) rfl (by first | exact .inl rfl | exact .inr (.inl rfl) | exact .inr (.inr rfl)) rfl rfl) (a_cons (e_int) (a_cons (e_int) (a_nil) rfl) rfl) rfl) rfl) (many_cons (many_cons (many_cons (many_cons many_nil)))) rfl rfl rfl) (a_cons (e_fn C__law_rule hgd (hr.mono (by decide)) rfl tk (a_cons (e_var (i := 1) rfl (by first | exact .inl rfl | exact .inr (.inl rfl) | exact .inr (.inr rfl)) rfl rfl) (a_cons (e_var (i := 2) rfl (by first | exact .inl rfl | exact .inr (.inl rfl) | exact .inr (.inr rfl)) rfl rfl) (a_cons (e_int) (a_cons (e_int) (a_nil) rfl) rfl) rfl) rfl) (many_cons (many_cons (many_cons (many_cons many_nil)))) rfl rfl rfl) (a_nil) rfl) rfl) rfl) (by rw [sizeLine_eq]; decide) rfl rfl rfl rfl) (ss_cons (s_set (i := 6) sc_law.nd rfl (by first | exact .inl rfl | exact .inr rfl) (e_fn C__law_of hgd (hr.mono (by decide)) rfl tk (a_cons (e_var (i := 1) rfl (by first | exact .inl rfl | exact .inr (.inl rfl) | exact .inr (.inr rfl)) rfl rfl) (a_cons (e_lst (a_cons (e_int) (a_cons (e_int) (a_cons (g_pow (e_int) (e_int)) (a_cons (e_neg (g_pow (e_int) (e_int))) (a_nil) rfl) rfl) rfl) rfl)) (a_nil) rfl) rfl) (many_cons (many_cons many_nil)) rfl rfl rfl) rfl (.inl rfl)) (ss_cons (s_parN (is := [4, 5]) rfl (pgs_cons (pg_name (i := 4) sc_law.nd rfl (by first | exact .inl rfl | exact .inr rfl) (by first | exact .inl rfl | exact .inr rfl)) (pgs_cons (pg_name (i := 5) sc_law.nd rfl (by first | exact .inl rfl | exact .inr rfl) (by first | exact .inl rfl | exact .inr rfl)) pgs_nil rfl) rfl) rfl rfl (a_cons (e_fn C_rule_moved hgd (hr.mono (by decide)) rfl tk (a_cons (e_var (i := 4) rfl (by first | exact .inl rfl | exact .inr (.inl rfl) | exact .inr (.inr rfl)) rfl rfl) (a_cons (e_var (i := 6) rfl (by first | exact .inl rfl | exact .inr (.inl rfl) | exact .inr (.inr rfl)) rfl rfl) (a_nil) rfl) rfl) (many_cons (many_cons many_nil)) rfl rfl rfl) (a_cons (e_fn C_rule_moved hgd (hr.mono (by decide)) rfl tk (a_cons (e_var (i := 5) rfl (by first | exact .inl rfl | exact .inr (.inl rfl) | exact .inr (.inr rfl)) rfl rfl) (a_cons (e_var (i := 6) rfl (by first | exact .inl rfl | exact .inr (.inl rfl) | exact .inr (.inr rfl)) rfl rfl) (a_nil) rfl) rfl) (many_cons (many_cons many_nil)) rfl rfl rfl) (a_nil) rfl) rfl) (by rw [sizeLine_eq]; decide) rfl rfl rfl rfl) (ss_cons (s_parN (is := [7, 8]) rfl (pgs_cons (pg_name (i := 7) sc_law.nd rfl (by first | exact .inl rfl | exact .inr rfl) (by first | exact .inl rfl | exact .inr rfl)) (pgs_cons (pg_name (i := 8) sc_law.nd rfl (by first | exact .inl rfl | exact .inr rfl) (by first | exact .inl rfl | exact .inr rfl)) pgs_nil rfl) rfl) rfl rfl (a_cons (e_fn C_row_led hgd (hr.mono (by decide)) rfl tk (a_cons (e_var (i := 3) rfl (by first | exact .inl rfl | exact .inr (.inl rfl) | exact .inr (.inr rfl)) rfl rfl) (a_cons (e_var (i := 4) rfl (by first | exact .inl rfl | exact .inr (.inl rfl) | exact .inr (.inr rfl)) rfl rfl) (a_nil) rfl) rfl) (many_cons (many_cons many_nil)) rfl rfl rfl) (a_cons (e_fn C_rows_plus hgd (hr.mono (by decide)) rfl tk (a_cons (e_var (i := 4) rfl (by first | exact .inl rfl | exact .inr (.inl rfl) | exact .inr (.inr rfl)) rfl rfl) (a_cons (e_var (i := 5) rfl (by first | exact .inl rfl | exact .inr (.inl rfl) | exact .inr (.inr rfl)) rfl rfl) (a_nil) rfl) rfl) (many_cons (many_cons many_nil)) rfl rfl rfl) (a_nil) rfl) rfl) (by rw [sizeLine_eq]; decide) rfl rfl rfl rfl) (ss_cons (s_setLc (i := 9) (own := [("place", 16)]) rfl sc_law.nd rfl rfl rfl (i_range2 rfl (gF "range" (by decide)) (a_cons (e_neg (e_int)) (a_cons (e_int) (a_nil) rfl) rfl) rfl rfl) (blk_ok rfl (by kernel_rfl)) (by decide) (fun _ _ _ _ _ => (t_name (i := 16) sc_law.nd rfl (by first | exact .inl rfl | exact .inr rfl) (by first | exact .inl rfl | exact .inr rfl))) (fun _ _ _ _ _ => t_nil) (fun _ _ _ _ _ => g_add (e_var (i := 16) rfl (by first | exact .inl rfl | exact .inr (.inl rfl) | exact .inr (.inr rfl)) rfl rfl) (e_var (i := 6) rfl (by first | exact .inl rfl | exact .inr (.inl rfl) | exact .inr (.inr rfl)) rfl rfl)) (fun _ => rfl)) (ss_cons (s_if (h_ne hr (e_comp (own := [("place", 16)]) rfl sc_law.nd (i_seq (e_var (i := 9) rfl (by first | exact .inl rfl | exact .inr (.inl rfl) | exact .inr (.inr rfl)) rfl rfl)) (blk_ok rfl (by kernel_rfl)) (by decide) (fun _ _ _ _ _ => (t_name (i := 16) sc_law.nd rfl (by first | exact .inl rfl | exact .inr rfl) (by first | exact .inl rfl | exact .inr rfl))) (fun _ _ _ _ _ => t_nil) (fun _ _ _ _ _ => e_fn C_cell_of hgd (hr.mono (by decide)) rfl takes0 (a_cons (e_var (i := 7) rfl (by first | exact .inl rfl | exact .inr (.inl rfl) | exact .inr (.inr rfl)) rfl rfl) (a_cons (e_var (i := 16) rfl (by first | exact .inl rfl | exact .inr (.inl rfl) | exact .inr (.inr rfl)) rfl rfl) (a_nil) rfl) rfl) (many_cons (many_cons many_nil)) rfl rfl rfl) (fun _ => rfl)) (e_comp (own := [("place", 16)]) rfl sc_law.nd (i_seq (e_var (i := 9) rfl (by first | exact .inl rfl | exact .inr (.inl rfl) | exact .inr (.inr rfl)) rfl rfl)) (blk_ok rfl (by kernel_rfl)) (by decide) (fun _ _ _ _ _ => (t_name (i := 16) sc_law.nd rfl (by first | exact .inl rfl | exact .inr rfl) (by first | exact .inl rfl | exact .inr rfl))) (fun _ _ _ _ _ => t_nil) (fun _ _ _ _ _ => e_fn C__law_led_at hgd (hr.mono (by decide)) rfl takes0 (a_cons (e_var (i := 3) rfl (by first | exact .inl rfl | exact .inr (.inl rfl) | exact .inr (.inr rfl)) rfl rfl) (a_cons (e_var (i := 4) rfl (by first | exact .inl rfl | exact .inr (.inl rfl) | exact .inr (.inr rfl)) rfl rfl) (a_cons (e_var (i := 16) rfl (by first | exact .inl rfl | exact .inr (.inl rfl) | exact .inr (.inr rfl)) rfl rfl) (a_nil) rfl) rfl) rfl) (many_cons (many_cons (many_cons many_nil))) rfl rfl rfl) (fun _ => rfl))) (ss_one (s_ret (e_bool))) (ss_nil)) (ss_cons (s_if (h_ne hr (g_repr (a_cons (e_var (i := 7) rfl (by first | exact .inl rfl | exact .inr (.inl rfl) | exact .inr (.inr rfl)) rfl rfl) (a_nil) rfl) rfl rfl hgd hr rfl (gF "repr" (by decide))) (g_repr (a_cons (e_fn C__law_form hgd (hr.mono (by decide)) rfl tk (a_cons (e_var (i := 2) rfl (by first | exact .inl rfl | exact .inr (.inl rfl) | exact .inr (.inr rfl)) rfl rfl) (a_cons (e_comp (own := [("place", 16)]) rfl sc_law.nd (i_seq (e_var (i := 9) rfl (by first | exact .inl rfl | exact .inr (.inl rfl) | exact .inr (.inr rfl)) rfl rfl)) (blk_ok rfl (by kernel_rfl)) (by decide) (fun _ _ _ _ _ => (t_name (i := 16) sc_law.nd rfl (by first | exact .inl rfl | exact .inr rfl) (by first | exact .inl rfl | exact .inr rfl))) (fun _ _ _ _ _ => t_nil) (fun _ _ _ _ _ => e_tup (a_cons (e_var (i := 16) rfl (by first | exact .inl rfl | exact .inr (.inl rfl) | exact .inr (.inr rfl)) rfl rfl) (a_cons (e_fn C__law_led_at hgd (hr.mono (by decide)) rfl takes0 (a_cons (e_var (i := 3) rfl (by first | exact .inl rfl | exact .inr (.inl rfl) | exact .inr (.inr rfl)) rfl rfl) (a_cons (e_var (i := 4) rfl (by first | exact .inl rfl | exact .inr (.inl rfl) | exact .inr (.inr rfl)) rfl rfl) (a_cons (e_var (i := 16) rfl (by first | exact .inl rfl | exact .inr (.inl rfl) | exact .inr (.inr rfl)) rfl rfl) (a_nil) rfl) rfl) rfl) (many_cons (many_cons (many_cons many_nil))) rfl rfl rfl) (a_nil) rfl) rfl)) (fun _ => rfl)) (a_nil) rfl) rfl) (many_cons (many_cons many_nil)) rfl rfl rfl) (a_nil) rfl) rfl rfl hgd hr rfl (gF "repr" (by decide)))) (ss_one (s_ret (e_bool))) (ss_nil)) (ss_cons (s_setLc (i := 10) (own := [("place", 16)]) rfl sc_law.nd rfl rfl rfl (i_seq (e_var (i := 9) rfl (by first | exact .inl rfl | exact .inr (.inl rfl) | exact .inr (.inr rfl)) rfl rfl)) (blk_ok rfl (by kernel_rfl)) (by decide) (fun _ _ _ _ _ => (t_name (i := 16) sc_law.nd rfl (by first | exact .inl rfl | exact .inr rfl) (by first | exact .inl rfl | exact .inr rfl))) (fun _ _ _ _ _ => t_nil) (fun _ _ _ _ _ => g_mod (g_toint (a_cons (g_add (e_fn C__law_at hgd (hr.mono (by decide)) rfl takes0 (a_cons (e_var (i := 4) rfl (by first | exact .inl rfl | exact .inr (.inl rfl) | exact .inr (.inr rfl)) rfl rfl) (a_cons (e_var (i := 16) rfl (by first | exact .inl rfl | exact .inr (.inl rfl) | exact .inr (.inr rfl)) rfl rfl) (a_nil) rfl) rfl) (many_cons (many_cons many_nil)) rfl rfl rfl) (e_fn C__law_at hgd (hr.mono (by decide)) rfl takes0 (a_cons (e_var (i := 5) rfl (by first | exact .inl rfl | exact .inr (.inl rfl) | exact .inr (.inr rfl)) rfl rfl) (a_cons (e_var (i := 16) rfl (by first | exact .inl rfl | exact .inr (.inl rfl) | exact .inr (.inr rfl)) rfl rfl) (a_nil) rfl) rfl) (many_cons (many_cons many_nil)) rfl rfl rfl)) (a_nil) rfl) rfl rfl rfl (gF "int" (by decide))) (e_var (i := 2) rfl (by first | exact .inl rfl | exact .inr (.inl rfl) | exact .inr (.inr rfl)) rfl rfl)) (fun _ => rfl)) (ss_cons (s_if (PW.pt (b_or (h_ne hr (e_comp (own := [("place", 16)]) rfl sc_law.nd (i_seq (e_var (i := 9) rfl (by first | exact .inl rfl | exact .inr (.inl rfl) | exact .inr (.inr rfl)) rfl rfl)) (blk_ok rfl (by kernel_rfl)) (by decide) (fun _ _ _ _ _ => (t_name (i := 16) sc_law.nd rfl (by first | exact .inl rfl | exact .inr rfl) (by first | exact .inl rfl | exact .inr rfl))) (fun _ _ _ _ _ => t_nil) (fun _ _ _ _ _ => e_fn C__law_at hgd (hr.mono (by decide)) rfl takes0 (a_cons (e_var (i := 8) rfl (by first | exact .inl rfl | exact .inr (.inl rfl) | exact .inr (.inr rfl)) rfl rfl) (a_cons (e_var (i := 16) rfl (by first | exact .inl rfl | exact .inr (.inl rfl) | exact .inr (.inr rfl)) rfl rfl) (a_nil) rfl) rfl) (many_cons (many_cons many_nil)) rfl rfl rfl) (fun _ => rfl)) (e_var (i := 10) rfl (by first | exact .inl rfl | exact .inr (.inl rfl) | exact .inr (.inr rfl)) rfl rfl)) (h_or1 (h_ne hr (e_fn C_cell_of hgd (hr.mono (by decide)) rfl tk (a_cons (e_var (i := 8) rfl (by first | exact .inl rfl | exact .inr (.inl rfl) | exact .inr (.inr rfl)) rfl rfl) (a_cons (g_add (e_var (i := 6) rfl (by first | exact .inl rfl | exact .inr (.inl rfl) | exact .inr (.inr rfl)) rfl rfl) (e_int)) (a_nil) rfl) rfl) (many_cons (many_cons many_nil)) rfl rfl rfl) (e_int))))) (ss_one (s_ret (e_bool))) (ss_nil)) (ss_cons (s_if (h_ne hr (g_repr (a_cons (e_fn C_row_led hgd (hr.mono (by decide)) rfl tk (a_cons (e_var (i := 3) rfl (by first | exact .inl rfl | exact .inr (.inl rfl) | exact .inr (.inr rfl)) rfl rfl) (a_cons (e_var (i := 8) rfl (by first | exact .inl rfl | exact .inr (.inl rfl) | exact .inr (.inr rfl)) rfl rfl) (a_nil) rfl) rfl) (many_cons (many_cons many_nil)) rfl rfl rfl) (a_nil) rfl) rfl rfl hgd hr rfl (gF "repr" (by decide))) (g_repr (a_cons (e_fn C_rows_plus hgd (hr.mono (by decide)) rfl tk (a_cons (e_var (i := 7) rfl (by first | exact .inl rfl | exact .inr (.inl rfl) | exact .inr (.inr rfl)) rfl rfl) (a_cons (e_fn C_row_led hgd (hr.mono (by decide)) rfl tk (a_cons (e_var (i := 3) rfl (by first | exact .inl rfl | exact .inr (.inl rfl) | exact .inr (.inr rfl)) rfl rfl) (a_cons (e_var (i := 5) rfl (by first | exact .inl rfl | exact .inr (.inl rfl) | exact .inr (.inr rfl)) rfl rfl) (a_nil) rfl) rfl) (many_cons (many_cons many_nil)) rfl rfl rfl) (a_nil) rfl) rfl) (many_cons (many_cons many_nil)) rfl rfl rfl) (a_nil) rfl) rfl rfl hgd hr rfl (gF "repr" (by decide)))) (ss_one (s_ret (e_bool))) (ss_nil)) (ss_cons (s_if (h_ne hr (g_repr (a_cons (e_lst (a_cons (e_fn C_row_led hgd (hr.mono (by decide)) rfl tk (a_cons (e_var (i := 3) rfl (by first | exact .inl rfl | exact .inr (.inl rfl) | exact .inr (.inr rfl)) rfl rfl) (a_cons (e_tup (a_cons (e_var (i := 2) rfl (by first | exact .inl rfl | exact .inr (.inl rfl) | exact .inr (.inr rfl)) rfl rfl) (a_cons (e_tup (a_cons (e_tup (a_cons (e_int) (a_cons (e_int) (a_nil) rfl) rfl)) (a_nil) rfl)) (a_nil) rfl) rfl)) (a_nil) rfl) rfl) (many_cons (many_cons many_nil)) rfl rfl rfl) (a_cons (e_fn C_row_led hgd (hr.mono (by decide)) rfl tk (a_cons (e_tup (a_cons (e_var (i := 2) rfl (by first | exact .inl rfl | exact .inr (.inl rfl) | exact .inr (.inr rfl)) rfl rfl) (a_cons (e_tup (a_nil)) (a_nil) rfl) rfl)) (a_cons (e_var (i := 4) rfl (by first | exact .inl rfl | exact .inr (.inl rfl) | exact .inr (.inr rfl)) rfl rfl) (a_nil) rfl) rfl) (many_cons (many_cons many_nil)) rfl rfl rfl) (a_nil) rfl) rfl)) (a_nil) rfl) rfl rfl hgd hr rfl (gF "repr" (by decide))) (g_repr (a_cons (e_lst (a_cons (e_var (i := 3) rfl (by first | exact .inl rfl | exact .inr (.inl rfl) | exact .inr (.inr rfl)) rfl rfl) (a_cons (e_tup (a_cons (e_var (i := 2) rfl (by first | exact .inl rfl | exact .inr (.inl rfl) | exact .inr (.inr rfl)) rfl rfl) (a_cons (e_tup (a_nil)) (a_nil) rfl) rfl)) (a_nil) rfl) rfl)) (a_nil) rfl) rfl rfl hgd hr rfl (gF "repr" (by decide)))) (ss_one (s_ret (e_bool))) (ss_nil)) (ss_cons (s_set (i := 11) sc_law.nd rfl (by first | exact .inl rfl | exact .inr rfl) (g_sub (e_fn C__law_pick hgd (hr.mono (by decide)) rfl tk (a_cons (e_var (i := 1) rfl (by first | exact .inl rfl | exact .inr (.inl rfl) | exact .inr (.inr rfl)) rfl rfl) (a_cons (e_int) (a_nil) rfl) rfl) (many_cons (many_cons many_nil)) rfl rfl rfl) (e_int)) rfl (.inl rfl)) (ss_cons (s_if (h_ne hr (g_repr (a_cons (e_fn C_row_led hgd (hr.mono (by decide)) rfl tk (a_cons (e_fn C_rule_turned hgd (hr.mono (by decide)) rfl tk (a_cons (e_var (i := 3) rfl (by first | exact .inl rfl | exact .inr (.inl rfl) | exact .inr (.inr rfl)) rfl rfl) (a_nil) rfl) (many_cons many_nil) rfl rfl rfl) (a_cons (e_fn C_rule_turned hgd (hr.mono (by decide)) rfl tk (a_cons (e_var (i := 4) rfl (by first | exact .inl rfl | exact .inr (.inl rfl) | exact .inr (.inr rfl)) rfl rfl) (a_nil) rfl) (many_cons many_nil) rfl rfl rfl) (a_nil) rfl) rfl) (many_cons (many_cons many_nil)) rfl rfl rfl) (a_nil) rfl) rfl rfl hgd hr rfl (gF "repr" (by decide))) (g_repr (a_cons (e_fn C_rule_turned hgd (hr.mono (by decide)) rfl tk (a_cons (e_var (i := 7) rfl (by first | exact .inl rfl | exact .inr (.inl rfl) | exact .inr (.inr rfl)) rfl rfl) (a_nil) rfl) (many_cons many_nil) rfl rfl rfl) (a_nil) rfl) rfl rfl hgd hr rfl (gF "repr" (by decide)))) (ss_one (s_ret (e_bool))) (ss_nil)) (ss_cons (s_if (h_ne hr (g_repr (a_cons (e_fn C_row_led hgd (hr.mono (by decide)) rfl tk (a_cons (e_fn C_rule_moved hgd (hr.mono (by decide)) rfl tk (a_cons (e_var (i := 3) rfl (by first | exact .inl rfl | exact .inr (.inl rfl) | exact .inr (.inr rfl)) rfl rfl) (a_cons (e_var (i := 11) rfl (by first | exact .inl rfl | exact .inr (.inl rfl) | exact .inr (.inr rfl)) rfl rfl) (a_nil) rfl) rfl) (many_cons (many_cons many_nil)) rfl rfl rfl) (a_cons (e_var (i := 4) rfl (by first | exact .inl rfl | exact .inr (.inl rfl) | exact .inr (.inr rfl)) rfl rfl) (a_nil) rfl) rfl) (many_cons (many_cons many_nil)) rfl rfl rfl) (a_nil) rfl) rfl rfl hgd hr rfl (gF "repr" (by decide))) (g_repr (a_cons (e_fn C_rule_moved hgd (hr.mono (by decide)) rfl tk (a_cons (e_var (i := 7) rfl (by first | exact .inl rfl | exact .inr (.inl rfl) | exact .inr (.inr rfl)) rfl rfl) (a_cons (e_var (i := 11) rfl (by first | exact .inl rfl | exact .inr (.inl rfl) | exact .inr (.inr rfl)) rfl rfl) (a_nil) rfl) rfl) (many_cons (many_cons many_nil)) rfl rfl rfl) (a_nil) rfl) rfl rfl hgd hr rfl (gF "repr" (by decide)))) (ss_one (s_ret (e_bool))) (ss_nil)) (ss_cons (s_set (i := 12) sc_law.nd rfl (by first | exact .inl rfl | exact .inr rfl) (e_fn C__law_of hgd (hr.mono (by decide)) rfl tk (a_cons (e_var (i := 1) rfl (by first | exact .inl rfl | exact .inr (.inl rfl) | exact .inr (.inr rfl)) rfl rfl) (a_cons (e_comp (own := [("late", 24)]) rfl sc_law.nd (i_range2 rfl (gF "range" (by decide)) (a_cons (e_int) (a_cons (g_add (e_var (i := 2) rfl (by first | exact .inl rfl | exact .inr (.inl rfl) | exact .inr (.inr rfl)) rfl rfl) (e_int)) (a_nil) rfl) rfl) rfl rfl) (blk_ok rfl (by kernel_rfl)) (by decide) (fun _ _ _ _ _ => (t_name (i := 24) sc_law.nd rfl (by first | exact .inl rfl | exact .inr rfl) (by first | exact .inl rfl | exact .inr rfl))) (fun _ _ _ _ _ => pts_one (h_eq hr (g_mod (g_toint (a_cons (e_var (i := 2) rfl (by first | exact .inl rfl | exact .inr (.inl rfl) | exact .inr (.inr rfl)) rfl rfl) (a_nil) rfl) rfl rfl rfl (gF "int" (by decide))) (e_var (i := 24) rfl (by first | exact .inl rfl | exact .inr (.inl rfl) | exact .inr (.inr rfl)) rfl rfl)) (e_int))) (fun _ _ _ _ _ => e_var (i := 24) rfl (by first | exact .inl rfl | exact .inr (.inl rfl) | exact .inr (.inr rfl)) rfl rfl) (fun _ => rfl)) (a_nil) rfl) rfl) (many_cons (many_cons many_nil)) rfl rfl rfl) rfl (.inl rfl)) (ss_cons (s_if (h_ne hr (g_repr (a_cons (e_fn C_row_led hgd (hr.mono (by decide)) rfl tk (a_cons (e_fn C_rule_split hgd (hr.mono (by decide)) rfl tk (a_cons (e_var (i := 3) rfl (by first | exact .inl rfl | exact .inr (.inl rfl) | exact .inr (.inr rfl)) rfl rfl) (a_cons (e_var (i := 12) rfl (by first | exact .inl rfl | exact .inr (.inl rfl) | exact .inr (.inr rfl)) rfl rfl) (a_nil) rfl) rfl) (many_cons (many_cons many_nil)) rfl rfl rfl) (a_cons (e_fn C_rule_split hgd (hr.mono (by decide)) rfl tk (a_cons (e_var (i := 4) rfl (by first | exact .inl rfl | exact .inr (.inl rfl) | exact .inr (.inr rfl)) rfl rfl) (a_cons (e_var (i := 12) rfl (by first | exact .inl rfl | exact .inr (.inl rfl) | exact .inr (.inr rfl)) rfl rfl) (a_nil) rfl) rfl) (many_cons (many_cons many_nil)) rfl rfl rfl) (a_nil) rfl) rfl) (many_cons (many_cons many_nil)) rfl rfl rfl) (a_nil) rfl) rfl rfl hgd hr rfl (gF "repr" (by decide))) (g_repr (a_cons (e_fn C_rule_split hgd (hr.mono (by decide)) rfl tk (a_cons (e_var (i := 7) rfl (by first | exact .inl rfl | exact .inr (.inl rfl) | exact .inr (.inr rfl)) rfl rfl) (a_cons (e_var (i := 12) rfl (by first | exact .inl rfl | exact .inr (.inl rfl) | exact .inr (.inr rfl)) rfl rfl) (a_nil) rfl) rfl) (many_cons (many_cons many_nil)) rfl rfl rfl) (a_nil) rfl) rfl rfl hgd hr rfl (gF "repr" (by decide)))) (ss_one (s_ret (e_bool))) (ss_nil)) (ss_cons (s_set (i := 13) sc_law.nd rfl (by first | exact .inl rfl | exact .inr rfl) (g_add (e_int) (e_fn C__law_pick hgd (hr.mono (by decide)) rfl tk (a_cons (e_var (i := 1) rfl (by first | exact .inl rfl | exact .inr (.inl rfl) | exact .inr (.inr rfl)) rfl rfl) (a_cons (e_int) (a_nil) rfl) rfl) (many_cons (many_cons many_nil)) rfl rfl rfl)) rfl (.inl rfl)) (ss_cons (s_set (i := 14) sc_law.nd rfl (by first | exact .inl rfl | exact .inr rfl) (g_tuple (a_cons (e_comp (own := [("lap", 25)]) rfl sc_law.nd (i_range1 rfl (gF "range" (by decide)) (a_cons (e_var (i := 13) rfl (by first | exact .inl rfl | exact .inr (.inl rfl) | exact .inr (.inr rfl)) rfl rfl) (a_nil) rfl) rfl) (blk_ok rfl (by kernel_rfl)) (by decide) (fun _ _ _ _ _ => (t_name (i := 25) sc_law.nd rfl (by first | exact .inl rfl | exact .inr rfl) (by first | exact .inl rfl | exact .inr rfl))) (fun _ _ _ _ _ => t_nil) (fun _ _ _ _ _ => e_fn C__law_pick hgd (hr.mono (by decide)) rfl takes0 (a_cons (e_var (i := 1) rfl (by first | exact .inl rfl | exact .inr (.inl rfl) | exact .inr (.inr rfl)) rfl rfl) (a_cons (e_var (i := 2) rfl (by first | exact .inl rfl | exact .inr (.inl rfl) | exact .inr (.inr rfl)) rfl rfl) (a_nil) rfl) rfl) (many_cons (many_cons many_nil)) rfl rfl rfl) (fun _ => rfl)) (a_nil) rfl) rfl rfl rfl (gF "tuple" (by decide))) rfl (.inl rfl)) (ss_cons (s_set (i := 15) sc_law.nd rfl (by first | exact .inl rfl | exact .inr rfl) (e_fn C_cells_led hgd (hr.mono (by decide)) rfl tk (a_cons (e_var (i := 3) rfl (by first | exact .inl rfl | exact .inr (.inl rfl) | exact .inr (.inr rfl)) rfl rfl) (a_cons (e_var (i := 14) rfl (by first | exact .inl rfl | exact .inr (.inl rfl) | exact .inr (.inr rfl)) rfl rfl) (a_nil) rfl) rfl) (many_cons (many_cons many_nil)) rfl rfl rfl) rfl (.inl rfl)) (ss_cons (s_set (i := 10) sc_law.nd rfl (by first | exact .inl rfl | exact .inr rfl) (e_lst (a_nil)) rfl (.inl rfl)) (ss_cons (s_for (passes_of rfl) rfl (i_range1 rfl (gF "range" (by decide)) (a_cons (e_var (i := 13) rfl (by first | exact .inl rfl | exact .inr (.inl rfl) | exact .inr (.inr rfl)) rfl rfl) (a_nil) rfl) rfl) (t_name (i := 16) sc_law.nd rfl (by first | exact .inl rfl | exact .inr rfl) (by first | exact .inl rfl | exact .inr rfl)) (ss_one (s_drop (g_append (e_var (i := 10) rfl (by first | exact .inl rfl | exact .inr (.inl rfl) | exact .inr (.inr rfl)) rfl rfl) (a_cons (g_mod (g_toint (a_cons (g_sum (a_cons (e_comp (own := [("late", 24), ("number", 26)]) rfl sc_law.nd (i_seq (g_ix hr (e_var (i := 3) rfl (by first | exact .inl rfl | exact .inr (.inl rfl) | exact .inr (.inr rfl)) rfl rfl) (e_int) (fun _ _ => rfl))) (blk_ok rfl (by kernel_rfl)) (by decide) (fun _ _ _ _ _ => (t_tup rfl (ts_cons (t_name (i := 24) sc_law.nd rfl (by first | exact .inl rfl | exact .inr rfl) (by first | exact .inl rfl | exact .inr rfl)) (ts_cons (t_name (i := 26) sc_law.nd rfl (by first | exact .inl rfl | exact .inr rfl) (by first | exact .inl rfl | exact .inr rfl)) ts_nil rfl) rfl) rfl rfl)) (fun _ _ _ _ _ => t_nil) (fun _ _ _ _ _ => g_mul (e_var (i := 26) rfl (by first | exact .inl rfl | exact .inr (.inl rfl) | exact .inr (.inr rfl)) rfl rfl) (g_ix hr (e_var (i := 14) rfl (by first | exact .inl rfl | exact .inr (.inl rfl) | exact .inr (.inr rfl)) rfl rfl) (g_mod (g_toint (a_cons (g_sub (e_var (i := 16) rfl (by first | exact .inl rfl | exact .inr (.inl rfl) | exact .inr (.inr rfl)) rfl rfl) (e_var (i := 24) rfl (by first | exact .inl rfl | exact .inr (.inl rfl) | exact .inr (.inr rfl)) rfl rfl)) (a_nil) rfl) rfl rfl rfl (gF "int" (by decide))) (e_var (i := 13) rfl (by first | exact .inl rfl | exact .inr (.inl rfl) | exact .inr (.inr rfl)) rfl rfl)) (fun _ _ => rfl))) (fun _ => rfl)) (a_nil) rfl) rfl rfl rfl rfl (gF "sum" (by decide))) (a_nil) rfl) rfl rfl rfl (gF "int" (by decide))) (e_var (i := 2) rfl (by first | exact .inl rfl | exact .inr (.inl rfl) | exact .inr (.inr rfl)) rfl rfl)) (a_nil) rfl) (fun _ => rfl) rfl rfl rfl rfl) rfl)) (fun _ => rfl)) (ss_cons (s_if (PW.pt (b_or (h_ne hr (g_repr (a_cons (e_var (i := 15) rfl (by first | exact .inl rfl | exact .inr (.inl rfl) | exact .inr (.inr rfl)) rfl rfl) (a_nil) rfl) rfl rfl hgd hr rfl (gF "repr" (by decide))) (g_repr (a_cons (g_tuple (a_cons (e_var (i := 10) rfl (by first | exact .inl rfl | exact .inr (.inl rfl) | exact .inr (.inr rfl)) rfl rfl) (a_nil) rfl) rfl rfl rfl (gF "tuple" (by decide))) (a_nil) rfl) rfl rfl hgd hr rfl (gF "repr" (by decide)))) (h_or1 (h_ne hr (g_repr (a_cons (e_fn C_cells_led hgd (hr.mono (by decide)) rfl tk (a_cons (e_var (i := 3) rfl (by first | exact .inl rfl | exact .inr (.inl rfl) | exact .inr (.inr rfl)) rfl rfl) (a_cons (g_mul (e_var (i := 14) rfl (by first | exact .inl rfl | exact .inr (.inl rfl) | exact .inr (.inr rfl)) rfl rfl) (e_int)) (a_nil) rfl) rfl) (many_cons (many_cons many_nil)) rfl rfl rfl) (a_nil) rfl) rfl rfl hgd hr rfl (gF "repr" (by decide))) (g_repr (a_cons (g_mul (e_var (i := 15) rfl (by first | exact .inl rfl | exact .inr (.inl rfl) | exact .inr (.inr rfl)) rfl rfl) (e_int)) (a_nil) rfl) rfl rfl hgd hr rfl (gF "repr" (by decide))))))) (ss_one (s_ret (e_bool))) (ss_nil)) (ss_cons (s_setLc (i := 17) (own := [("k", 27), ("cell", 28)]) rfl sc_law.nd rfl rfl rfl (i_enum rfl (gF "enumerate" (by decide)) (a_cons (e_var (i := 14) rfl (by first | exact .inl rfl | exact .inr (.inl rfl) | exact .inr (.inr rfl)) rfl rfl) (a_nil) rfl) rfl) (blk_ok rfl (by kernel_rfl)) (by decide) (fun _ _ _ _ _ => (t_tup rfl (ts_cons (t_name (i := 27) sc_law.nd rfl (by first | exact .inl rfl | exact .inr rfl) (by first | exact .inl rfl | exact .inr rfl)) (ts_cons (t_name (i := 28) sc_law.nd rfl (by first | exact .inl rfl | exact .inr rfl) (by first | exact .inl rfl | exact .inr rfl)) ts_nil rfl) rfl) rfl rfl)) (fun _ _ _ _ _ => pts_one (h_ne hr (e_var (i := 28) rfl (by first | exact .inl rfl | exact .inr (.inl rfl) | exact .inr (.inr rfl)) rfl rfl) (e_int))) (fun _ _ _ _ _ => e_var (i := 27) rfl (by first | exact .inl rfl | exact .inr (.inl rfl) | exact .inr (.inr rfl)) rfl rfl) (fun _ => rfl)) (ss_cons (s_if (h_ne hr (g_repr (a_cons (e_fn C_first_lit hgd (hr.mono (by decide)) rfl tk (a_cons (e_var (i := 14) rfl (by first | exact .inl rfl | exact .inr (.inl rfl) | exact .inr (.inr rfl)) rfl rfl) (a_nil) rfl) (many_cons many_nil) rfl rfl rfl) (a_nil) rfl) rfl rfl hgd hr rfl (gF "repr" (by decide))) (g_repr (a_cons (e_if (h_ne hr (e_var (i := 17) rfl (by first | exact .inl rfl | exact .inr (.inl rfl) | exact .inr (.inr rfl)) rfl rfl) (e_lst (a_nil))) (g_ix hr (e_var (i := 17) rfl (by first | exact .inl rfl | exact .inr (.inl rfl) | exact .inr (.inr rfl)) rfl rfl) (e_int) (fun _ _ => rfl)) (e_none)) (a_nil) rfl) rfl rfl hgd hr rfl (gF "repr" (by decide)))) (ss_one (s_ret (e_bool))) (ss_nil)) (ss_cons (s_set (i := 18) sc_law.nd rfl (by first | exact .inl rfl | exact .inr rfl) (g_sub (e_int) (e_fn C__law_pick hgd (hr.mono (by decide)) rfl tk (a_cons (e_var (i := 1) rfl (by first | exact .inl rfl | exact .inr (.inl rfl) | exact .inr (.inr rfl)) rfl rfl) (a_cons (e_int) (a_nil) rfl) rfl) (many_cons (many_cons many_nil)) rfl rfl rfl)) rfl (.inl rfl)) (ss_cons (s_par2 (i := 19) (j := 20) rfl sc_law.nd rfl rfl (by decide) rfl rfl (a_cons (e_tup (a_cons (e_var (i := 2) rfl (by first | exact .inl rfl | exact .inr (.inl rfl) | exact .inr (.inr rfl)) rfl rfl) (a_cons (e_tup (a_cons (e_tup (a_cons (e_int) (a_cons (e_int) (a_nil) rfl) rfl)) (a_cons (e_tup (a_cons (e_var (i := 18) rfl (by first | exact .inl rfl | exact .inr (.inl rfl) | exact .inr (.inr rfl)) rfl rfl) (a_cons (e_int) (a_nil) rfl) rfl)) (a_nil) rfl) rfl)) (a_nil) rfl) rfl)) (a_cons (e_fn C__law_pick hgd (hr.mono (by decide)) rfl tk (a_cons (e_var (i := 1) rfl (by first | exact .inl rfl | exact .inr (.inl rfl) | exact .inr (.inr rfl)) rfl rfl) (a_cons (e_int) (a_nil) rfl) rfl) (many_cons (many_cons many_nil)) rfl rfl rfl) (a_nil) rfl) rfl) rfl rfl) (ss_cons (s_set (i := 21) sc_law.nd rfl (by first | exact .inl rfl | exact .inr rfl) (e_fn C__law_form hgd (hr.mono (by decide)) rfl tk (a_cons (e_var (i := 2) rfl (by first | exact .inl rfl | exact .inr (.inl rfl) | exact .inr (.inr rfl)) rfl rfl) (a_cons (e_lst (a_cons (e_tup (a_cons (e_int) (a_cons (e_int) (a_nil) rfl) rfl)) (a_cons (e_tup (a_cons (e_var (i := 20) rfl (by first | exact .inl rfl | exact .inr (.inl rfl) | exact .inr (.inr rfl)) rfl rfl) (a_cons (e_int) (a_nil) rfl) rfl)) (a_nil) rfl) rfl)) (a_nil) rfl) rfl) (many_cons (many_cons many_nil)) rfl rfl rfl) rfl (.inl rfl)) (ss_cons (s_set (i := 10) sc_law.nd rfl (by first | exact .inl rfl | exact .inr rfl) (e_fn C__law_form hgd (hr.mono (by decide)) rfl tk (a_cons (e_var (i := 2) rfl (by first | exact .inl rfl | exact .inr (.inl rfl) | exact .inr (.inr rfl)) rfl rfl) (a_cons (e_lst (a_cons (e_tup (a_cons (e_int) (a_cons (e_int) (a_nil) rfl) rfl)) (a_cons (e_tup (a_cons (e_var (i := 20) rfl (by first | exact .inl rfl | exact .inr (.inl rfl) | exact .inr (.inr rfl)) rfl rfl) (a_cons (e_int) (a_nil) rfl) rfl)) (a_cons (e_tup (a_cons (e_var (i := 18) rfl (by first | exact .inl rfl | exact .inr (.inl rfl) | exact .inr (.inr rfl)) rfl rfl) (a_cons (e_int) (a_nil) rfl) rfl)) (a_cons (e_tup (a_cons (g_add (e_var (i := 18) rfl (by first | exact .inl rfl | exact .inr (.inl rfl) | exact .inr (.inr rfl)) rfl rfl) (e_var (i := 20) rfl (by first | exact .inl rfl | exact .inr (.inl rfl) | exact .inr (.inr rfl)) rfl rfl)) (a_cons (e_int) (a_nil) rfl) rfl)) (a_nil) rfl) rfl) rfl) rfl)) (a_nil) rfl) rfl) (many_cons (many_cons many_nil)) rfl rfl rfl) rfl (.inl rfl)) (ss_cons (s_set (i := 22) sc_law.nd rfl (by first | exact .inl rfl | exact .inr rfl) (e_and (g_ne hr (g_ix hr (e_var (i := 10) rfl (by first | exact .inl rfl | exact .inr (.inl rfl) | exact .inr (.inr rfl)) rfl rfl) (e_int) (fun _ _ => rfl)) (e_tup (a_nil))) (pe_one (g_gt (g_sub (g_ix hr (g_ix hr (g_ix hr (e_var (i := 10) rfl (by first | exact .inl rfl | exact .inr (.inl rfl) | exact .inr (.inr rfl)) rfl rfl) (e_int) (fun _ _ => rfl)) (e_neg (e_int)) (fun _ _ => rfl)) (e_int) (fun _ _ => rfl)) (g_ix hr (g_ix hr (g_ix hr (e_var (i := 10) rfl (by first | exact .inl rfl | exact .inr (.inl rfl) | exact .inr (.inr rfl)) rfl rfl) (e_int) (fun _ _ => rfl)) (e_int) (fun _ _ => rfl)) (e_int) (fun _ _ => rfl))) (e_int)))) rfl (.inl rfl)) (ss_cons (s_if (h_ne hr (g_repr (a_cons (e_fn C__law_told hgd (hr.mono (by decide)) rfl tk (a_cons (e_glofnC (P := P) C_row_led rfl rfl) (a_cons (e_var (i := 21) rfl (by first | exact .inl rfl | exact .inr (.inl rfl) | exact .inr (.inr rfl)) rfl rfl) (a_cons (e_var (i := 19) rfl (by first | exact .inl rfl | exact .inr (.inl rfl) | exact .inr (.inr rfl)) rfl rfl) (a_nil) rfl) rfl) rfl) (many_cons (many_cons (many_cons many_nil))) rfl rfl rfl) (a_nil) rfl) rfl rfl hgd hr rfl (gF "repr" (by decide))) (g_repr (a_cons (e_if (b_val (e_var (i := 22) rfl (by first | exact .inl rfl | exact .inr (.inl rfl) | exact .inr (.inr rfl)) rfl rfl) (fun _ => rfl)) (e_tup (a_cons (e_str) (a_cons (e_int) (a_nil) rfl) rfl)) (e_tup (a_cons (e_str) (a_cons (e_var (i := 10) rfl (by first | exact .inl rfl | exact .inr (.inl rfl) | exact .inr (.inr rfl)) rfl rfl) (a_nil) rfl) rfl))) (a_nil) rfl) rfl rfl hgd hr rfl (gF "repr" (by decide)))) (ss_one (s_ret (e_bool))) (ss_nil)) (ss_cons (s_set (i := 23) sc_law.nd rfl (by first | exact .inl rfl | exact .inr rfl) (g_add (e_int) (e_fn C__law_pick hgd (hr.mono (by decide)) rfl tk (a_cons (e_var (i := 1) rfl (by first | exact .inl rfl | exact .inr (.inl rfl) | exact .inr (.inr rfl)) rfl rfl) (a_cons (e_int) (a_nil) rfl) rfl) (many_cons (many_cons many_nil)) rfl rfl rfl)) rfl (.inl rfl)) (ss_cons (s_set (i := 10) sc_law.nd rfl (by first | exact .inl rfl | exact .inr rfl) (e_if (h_lt (e_var (i := 23) rfl (by first | exact .inl rfl | exact .inr (.inl rfl) | exact .inr (.inr rfl)) rfl rfl) (e_int)) (e_tup (a_cons (e_str) (a_cons (e_tup (a_cons (e_var (i := 2) rfl (by first | exact .inl rfl | exact .inr (.inl rfl) | exact .inr (.inr rfl)) rfl rfl) (a_cons (e_tup (a_cons (e_tup (a_cons (e_int) (a_cons (e_int) (a_nil) rfl) rfl)) (a_cons (e_tup (a_cons (e_var (i := 23) rfl (by first | exact .inl rfl | exact .inr (.inl rfl) | exact .inr (.inr rfl)) rfl rfl) (a_cons (e_int) (a_nil) rfl) rfl)) (a_nil) rfl) rfl)) (a_nil) rfl) rfl)) (a_nil) rfl) rfl)) (e_tup (a_cons (e_str) (a_cons (e_int) (a_nil) rfl) rfl))) rfl (.inl rfl)) (ss_cons (s_if (h_ne hr (g_repr (a_cons (e_fn C__law_told hgd (hr.mono (by decide)) rfl tk (a_cons (e_glofnC (P := P) C_rows_plus rfl rfl) (a_cons (e_tup (a_cons (e_var (i := 2) rfl (by first | exact .inl rfl | exact .inr (.inl rfl) | exact .inr (.inr rfl)) rfl rfl) (a_cons (e_tup (a_cons (e_tup (a_cons (e_int) (a_cons (e_int) (a_nil) rfl) rfl)) (a_nil) rfl)) (a_nil) rfl) rfl)) (a_cons (e_tup (a_cons (e_var (i := 2) rfl (by first | exact .inl rfl | exact .inr (.inl rfl) | exact .inr (.inr rfl)) rfl rfl) (a_cons (e_tup (a_cons (e_tup (a_cons (e_var (i := 23) rfl (by first | exact .inl rfl | exact .inr (.inl rfl) | exact .inr (.inr rfl)) rfl rfl) (a_cons (e_int) (a_nil) rfl) rfl)) (a_nil) rfl)) (a_nil) rfl) rfl)) (a_nil) rfl) rfl) rfl) (many_cons (many_cons (many_cons many_nil))) rfl rfl rfl) (a_nil) rfl) rfl rfl hgd hr rfl (gF "repr" (by decide))) (g_repr (a_cons (e_var (i := 10) rfl (by first | exact .inl rfl | exact .inr (.inl rfl) | exact .inr (.inr rfl)) rfl rfl) (a_nil) rfl) rfl rfl hgd hr rfl (gF "repr" (by decide)))) (ss_one (s_ret (e_bool))) (ss_nil)) (ss_one (s_ret (e_and (g_eq hr (e_fn C_span_of hgd (hr.mono (by decide)) rfl tk (a_cons (e_var (i := 19) rfl (by first | exact .inl rfl | exact .inr (.inl rfl) | exact .inr (.inr rfl)) rfl rfl) (a_nil) rfl) (many_cons many_nil) rfl rfl rfl) (g_add (e_var (i := 18) rfl (by first | exact .inl rfl | exact .inr (.inl rfl) | exact .inr (.inr rfl)) rfl rfl) (e_int))) (pe_one (g_eq hr (g_repr (a_cons (e_fn C_rule_told hgd (hr.mono (by decide)) rfl tk (a_cons (e_var (i := 2) rfl (by first | exact .inl rfl | exact .inr (.inl rfl) | exact .inr (.inr rfl)) rfl rfl) (a_cons (e_lst (a_cons (e_tup (a_cons (e_int) (a_cons (g_add (e_var (i := 2) rfl (by first | exact .inl rfl | exact .inr (.inl rfl) | exact .inr (.inr rfl)) rfl rfl) (e_int)) (a_nil) rfl) rfl)) (a_cons (e_tup (a_cons (e_int) (a_cons (e_neg (e_int)) (a_nil) rfl) rfl)) (a_nil) rfl) rfl)) (a_nil) rfl) rfl) (many_cons (many_cons many_nil)) rfl rfl rfl) (a_nil) rfl) rfl rfl hgd hr rfl (gF "repr" (by decide))) (g_repr (a_cons (e_tup (a_cons (e_var (i := 2) rfl (by first | exact .inl rfl | exact .inr (.inl rfl) | exact .inr (.inr rfl)) rfl rfl) (a_cons (e_tup (a_nil)) (a_nil) rfl) rfl)) (a_nil) rfl) rfl rfl hgd hr rfl (gF "repr" (by decide))))))))))))))))))))))))))))))))))))))))))
theorem cal_law (gF : ∀ x : Str, x ∈ frees → mg x = none) (C__law_source : Cal P w K mg base 1 "_law_source" 1 f__law_source) (C__law_of : Cal P w K mg base 2 "_law_of" 2 f__law_of) (C__law_rule : Cal P w K mg base 2 "_law_rule" 4 f__law_rule) (C_rule_moved : Cal P w K mg base 1 "rule_moved" 2 f_rule_moved) (C_row_led : Cal P w K mg base 5 "row_led" 2 f_row_led) (C_rows_plus : Cal P w K mg base 5 "rows_plus" 2 f_rows_plus) (C_cell_of : Cal P w K mg base 1 "cell_of" 2 f_cell_of) (C__law_led_at : Cal P w K mg base 2 "_law_led_at" 3 f__law_led_at) (C__law_form : Cal P w K mg base 1 "_law_form" 2 f__law_form) (C__law_at : Cal P w K mg base 1 "_law_at" 2 f__law_at) (C__law_pick : Cal P w K mg base 1 "_law_pick" 2 f__law_pick) (C_rule_turned : Cal P w K mg base 2 "rule_turned" 1 f_rule_turned) (C_rule_split : Cal P w K mg base 2 "rule_split" 2 f_rule_split) (C_cells_led : Cal P w K mg base 1 "cells_led" 2 f_cells_led) (C_first_lit : Cal P w K mg base 1 "first_lit" 1 f_first_lit) (C__law_told : Cal P w K mg base 6 "_law_told" 3 f__law_told) (C_span_of : Cal P w K mg base 1 "span_of" 1 f_span_of) (C_rule_told : Cal P w K mg base 1 "rule_told" 2 f_rule_told) {f : Addr} {fd : FuncData} (F : FnP K "law" s_law f fd) (hm : mg "law" = some (.ref f)) : Cal P w K mg base 7 "law" 1 f_law :=
  ⟨f, fd, ["script"], rfl, fn_ok F sc_law (fun cdv A outer s H E hgd hr => b_law gF C__law_source C__law_of C__law_rule C_rule_moved C_row_led C_rows_plus C_cell_of C__law_led_at C__law_form C__law_at C__law_pick C_rule_turned C_rule_split C_cells_led C_first_lit C__law_told C_span_of C_rule_told cdv A outer s H E hgd hr), hm, F.kp, F.bindsN fun _ _ _ _ _ _ us hl => match us, hl with | [_], _ => rfl⟩
end
end Law_k14

namespace Law_k14
open PySem PySem.Spec PyProof.Rows L2 Rf
def d_rule_told : He.DefD := ⟨("rule_told", none), "rule_told", "rule_told", defArgs s_rule_told, defBody s_rule_told, defScope s_rule_told, [], []⟩
def d_span_of : He.DefD := ⟨("span_of", none), "span_of", "span_of", defArgs s_span_of, defBody s_span_of, defScope s_span_of, [], []⟩
def d_rule_made : He.DefD := ⟨("rule_made", none), "rule_made", "rule_made", defArgs s_rule_made, defBody s_rule_made, defScope s_rule_made, [], []⟩
def d_put_on : He.DefD := ⟨("put_on", none), "put_on", "put_on", defArgs s_put_on, defBody s_put_on, defScope s_put_on, [], []⟩
def d_rules_on : He.DefD := ⟨("rules_on", none), "rules_on", "rules_on", defArgs s_rules_on, defBody s_rules_on, defScope s_rules_on, [], []⟩
def d_rules_and : He.DefD := ⟨("rules_and", none), "rules_and", "rules_and", defArgs s_rules_and, defBody s_rules_and, defScope s_rules_and, [], []⟩
def d_rule_turned : He.DefD := ⟨("rule_turned", none), "rule_turned", "rule_turned", defArgs s_rule_turned, defBody s_rule_turned, defScope s_rule_turned, [], []⟩
def d_rule_moved : He.DefD := ⟨("rule_moved", none), "rule_moved", "rule_moved", defArgs s_rule_moved, defBody s_rule_moved, defScope s_rule_moved, [], []⟩
def d_rule_split : He.DefD := ⟨("rule_split", none), "rule_split", "rule_split", defArgs s_rule_split, defBody s_rule_split, defScope s_rule_split, [], []⟩
def d_row_led : He.DefD := ⟨("row_led", none), "row_led", "row_led", defArgs s_row_led, defBody s_row_led, defScope s_row_led, [], []⟩
def d_rows_plus : He.DefD := ⟨("rows_plus", none), "rows_plus", "rows_plus", defArgs s_rows_plus, defBody s_rows_plus, defScope s_rows_plus, [], []⟩
def d_cell_of : He.DefD := ⟨("cell_of", none), "cell_of", "cell_of", defArgs s_cell_of, defBody s_cell_of, defScope s_cell_of, [], []⟩
def d_cells_led : He.DefD := ⟨("cells_led", none), "cells_led", "cells_led", defArgs s_cells_led, defBody s_cells_led, defScope s_cells_led, [], []⟩
def d_first_lit : He.DefD := ⟨("first_lit", none), "first_lit", "first_lit", defArgs s_first_lit, defBody s_first_lit, defScope s_first_lit, [], []⟩
def d__law_source : He.DefD := ⟨("_law_source", none), "_law_source", "_law_source", defArgs s__law_source, defBody s__law_source, defScope s__law_source, [], []⟩
def d__law_pick : He.DefD := ⟨("_law_pick", none), "_law_pick", "_law_pick", defArgs s__law_pick, defBody s__law_pick, defScope s__law_pick, [], []⟩
def d__law_of : He.DefD := ⟨("_law_of", none), "_law_of", "_law_of", defArgs s__law_of, defBody s__law_of, defScope s__law_of, [], []⟩
def d__law_form : He.DefD := ⟨("_law_form", none), "_law_form", "_law_form", defArgs s__law_form, defBody s__law_form, defScope s__law_form, [], []⟩
def d__law_rule : He.DefD := ⟨("_law_rule", none), "_law_rule", "_law_rule", defArgs s__law_rule, defBody s__law_rule, defScope s__law_rule, [], []⟩
def d__law_at : He.DefD := ⟨("_law_at", none), "_law_at", "_law_at", defArgs s__law_at, defBody s__law_at, defScope s__law_at, [], []⟩
def d__law_led_at : He.DefD := ⟨("_law_led_at", none), "_law_led_at", "_law_led_at", defArgs s__law_led_at, defBody s__law_led_at, defScope s__law_led_at, [], []⟩
def d__law_told : He.DefD := ⟨("_law_told", none), "_law_told", "_law_told", defArgs s__law_told, defBody s__law_told, defScope s__law_told, [], []⟩
def d_law : He.DefD := ⟨("law", none), "law", "law", defArgs s_law, defBody s_law, defScope s_law, [], []⟩
def fn : List He.DefD := [d_rule_told, d_span_of, d_rule_made, d_put_on, d_rules_on, d_rules_and, d_rule_turned, d_rule_moved, d_rule_split, d_row_led, d_rows_plus, d_cell_of, d_cells_led, d_first_lit, d__law_source, d__law_pick, d__law_of, d__law_form, d__law_rule, d__law_at, d__law_led_at, d__law_told, d_law]
def fa : List He.Fa := [.glo "rule_told", .glo "span_of", .glo "rule_made", .glo "put_on", .glo "rules_on", .glo "rules_and", .glo "rule_turned", .glo "rule_moved", .glo "rule_split", .glo "row_led", .glo "rows_plus", .glo "cell_of", .glo "cells_led", .glo "first_lit", .glo "_law_source", .glo "_law_pick", .glo "_law_of", .glo "_law_form", .glo "_law_rule", .glo "_law_at", .glo "_law_led_at", .glo "_law_told", .glo "law"] ++ frees.map He.Fa.free ++ [.int "MOST_PLACES" 400, .int "WIDE" 0]
abbrev R : PySem.W.OpenRow := PySem.W.OpenLaw.row PySem.Challenge.rw_sumcells_k14_rows_led_by_cells
abbrev k_TooGreat : Stmt := clsSt (top 2) 0
def d_TooGreat : ErrD := ⟨"TooGreat", "number", "TooGreat.__init__", defArgs k_TooGreat, defBody k_TooGreat, defScope k_TooGreat, PySem.Challenge.pw_sumcells_k14_rows_led_by_cells.main.file⟩
def es : List ErrD := [d_TooGreat]
abbrev hk : PySem.W.Hook := hookS 4 fa fn es
def ob (s : PySem.W.SharedT) : AlS := obsSG 4 fa fn es (HandSHeadRun.getT s)
theorem ob_eq (s : PySem.W.SharedT) : ob s = hk.obs s.abs := obsSG_eq (HandSHeadRun.getT_eq s)
def loose0 : List PySem.Str := ["CellError", "TooGreat", "WIDE", "MOST_PLACES", "rule_told", "span_of", "rule_made", "put_on", "rules_on", "rules_and", "rule_turned", "rule_moved", "rule_split", "row_led", "rows_plus", "cell_of", "cells_led", "first_lit", "_law_source", "_law_pick", "_law_of", "_law_form", "_law_rule", "_law_at", "_law_led_at", "_law_told"]
abbrev loose : List PySem.Str := loose0
theorem run (w : World) : HandSHeadRun.RunEq R (PySem.W.view R.prog [30]) hk ob 20000 loose w := by
  intro os
  kernel_rfl
theorem facts {w : World} {K : PySem.W.Frag} {h : Heap} {mg : Str → Option Value} {f : Addr} (X : K.In h) (G : h.Ns mainGlobals mg) (hfa : mg ("law" : Str) = some (.ref f)) (cs : SaysS fa fn es K) :
    ∃ fd : FuncData, (∀ (s : Shared) (v : Value), BindsTo s fd ⟨[v], []⟩ [("script", v)]) ∧ ∀ base : Heap, K.In base → base.Ns mainGlobals mg → FnG PySem.Challenge.pw_sumcells_k14_rows_led_by_cells w K mg base (L2.CX PySem.Challenge.pw_sumcells_k14_rows_led_by_cells w) 7 f fd ["script"] (spOf ⟨K, mg⟩ 1 f_law) := by
  have c := cs.d
  have gF : ∀ x : Str, x ∈ frees → mg x = none := fun x hx => He.free_ok X G (c.facts (List.mem_append_left _ (List.mem_append_right _ (List.mem_map_of_mem hx))))
  obtain ⟨fd_rule_told, F_rule_told⟩ := c.def_ 0 (d := d_rule_told) rfl
  obtain ⟨fd_span_of, F_span_of⟩ := c.def_ 1 (d := d_span_of) rfl
  obtain ⟨fd_rule_made, F_rule_made⟩ := c.def_ 2 (d := d_rule_made) rfl
  obtain ⟨fd_put_on, F_put_on⟩ := c.def_ 3 (d := d_put_on) rfl
  obtain ⟨fd_rules_on, F_rules_on⟩ := c.def_ 4 (d := d_rules_on) rfl
  obtain ⟨fd_rules_and, F_rules_and⟩ := c.def_ 5 (d := d_rules_and) rfl
  obtain ⟨fd_rule_turned, F_rule_turned⟩ := c.def_ 6 (d := d_rule_turned) rfl
  obtain ⟨fd_rule_moved, F_rule_moved⟩ := c.def_ 7 (d := d_rule_moved) rfl
  obtain ⟨fd_rule_split, F_rule_split⟩ := c.def_ 8 (d := d_rule_split) rfl
  obtain ⟨fd_row_led, F_row_led⟩ := c.def_ 9 (d := d_row_led) rfl
  obtain ⟨fd_rows_plus, F_rows_plus⟩ := c.def_ 10 (d := d_rows_plus) rfl
  obtain ⟨fd_cell_of, F_cell_of⟩ := c.def_ 11 (d := d_cell_of) rfl
  obtain ⟨fd_cells_led, F_cells_led⟩ := c.def_ 12 (d := d_cells_led) rfl
  obtain ⟨fd_first_lit, F_first_lit⟩ := c.def_ 13 (d := d_first_lit) rfl
  obtain ⟨fd__law_source, F__law_source⟩ := c.def_ 14 (d := d__law_source) rfl
  obtain ⟨fd__law_pick, F__law_pick⟩ := c.def_ 15 (d := d__law_pick) rfl
  obtain ⟨fd__law_of, F__law_of⟩ := c.def_ 16 (d := d__law_of) rfl
  obtain ⟨fd__law_form, F__law_form⟩ := c.def_ 17 (d := d__law_form) rfl
  obtain ⟨fd__law_rule, F__law_rule⟩ := c.def_ 18 (d := d__law_rule) rfl
  obtain ⟨fd__law_at, F__law_at⟩ := c.def_ 19 (d := d__law_at) rfl
  obtain ⟨fd__law_led_at, F__law_led_at⟩ := c.def_ 20 (d := d__law_led_at) rfl
  obtain ⟨fd__law_told, F__law_told⟩ := c.def_ 21 (d := d__law_told) rfl
  obtain ⟨fd_law, F_law⟩ := c.def_ 22 (d := d_law) rfl
  have g_rule_told := He.glo_ok X G (c.fact 0 (f := .glo "rule_told") rfl)
  have g_span_of := He.glo_ok X G (c.fact 1 (f := .glo "span_of") rfl)
  have g_rule_made := He.glo_ok X G (c.fact 2 (f := .glo "rule_made") rfl)
  have g_put_on := He.glo_ok X G (c.fact 3 (f := .glo "put_on") rfl)
  have g_rules_on := He.glo_ok X G (c.fact 4 (f := .glo "rules_on") rfl)
  have g_rules_and := He.glo_ok X G (c.fact 5 (f := .glo "rules_and") rfl)
  have g_rule_turned := He.glo_ok X G (c.fact 6 (f := .glo "rule_turned") rfl)
  have g_rule_moved := He.glo_ok X G (c.fact 7 (f := .glo "rule_moved") rfl)
  have g_rule_split := He.glo_ok X G (c.fact 8 (f := .glo "rule_split") rfl)
  have g_row_led := He.glo_ok X G (c.fact 9 (f := .glo "row_led") rfl)
  have g_rows_plus := He.glo_ok X G (c.fact 10 (f := .glo "rows_plus") rfl)
  have g_cell_of := He.glo_ok X G (c.fact 11 (f := .glo "cell_of") rfl)
  have g_cells_led := He.glo_ok X G (c.fact 12 (f := .glo "cells_led") rfl)
  have g_first_lit := He.glo_ok X G (c.fact 13 (f := .glo "first_lit") rfl)
  have g__law_source := He.glo_ok X G (c.fact 14 (f := .glo "_law_source") rfl)
  have g__law_pick := He.glo_ok X G (c.fact 15 (f := .glo "_law_pick") rfl)
  have g__law_of := He.glo_ok X G (c.fact 16 (f := .glo "_law_of") rfl)
  have g__law_form := He.glo_ok X G (c.fact 17 (f := .glo "_law_form") rfl)
  have g__law_rule := He.glo_ok X G (c.fact 18 (f := .glo "_law_rule") rfl)
  have g__law_at := He.glo_ok X G (c.fact 19 (f := .glo "_law_at") rfl)
  have g__law_led_at := He.glo_ok X G (c.fact 20 (f := .glo "_law_led_at") rfl)
  have g__law_told := He.glo_ok X G (c.fact 21 (f := .glo "_law_told") rfl)
  have g_law := He.glo_ok X G (c.fact 22 (f := .glo "law") rfl)
  have c_MOST_PLACES := He.int_ok X G (c.fact 35 (f := .int "MOST_PLACES" 400) rfl)
  have c_WIDE := He.int_ok X G (c.fact 36 (f := .int "WIDE" 0) rfl)
  have E_TooGreat : Err1 PySem.Challenge.pw_sumcells_k14_rows_led_by_cells w K mg "TooGreat" "number" := err_ok (e := d_TooGreat) X G (cs.e d_TooGreat (by simp [es])).2 (cs.e d_TooGreat (by simp [es])).1 rfl rfl (by kernel_rfl) rfl rfl rfl rfl rfl (by decide +kernel) (by decide +kernel) (by decide +kernel) (by decide +kernel) (by decide +kernel) (by decide) (by decide) (fun _ _ _ _ _ _ _ _ _ _ _ => ⟨_, by rfl⟩) (fun _ _ _ _ _ _ _ _ us hl => match us, hl with | [_, _], _ => rfl)
  have e := hfa.symm.trans g_law
  cases e
  have b := FunD.bindsA (ps := ["script"]) F_law fun _ _ _ _ _ _ us hl => match us, hl with | [_], _ => rfl
  refine ⟨fd_law, fun s v => b s [v] rfl, fun base _ _ => ?_⟩
  have C_rule_told : Cal PySem.Challenge.pw_sumcells_k14_rows_led_by_cells w K mg base 1 "rule_told" 2 f_rule_told := cal_rule_told gF F_rule_told g_rule_told
  have C_span_of : Cal PySem.Challenge.pw_sumcells_k14_rows_led_by_cells w K mg base 1 "span_of" 1 f_span_of := cal_span_of gF F_span_of g_span_of
  have C_rule_made : Cal PySem.Challenge.pw_sumcells_k14_rows_led_by_cells w K mg base 3 "rule_made" 1 f_rule_made := cal_rule_made gF C_span_of c_MOST_PLACES c_WIDE E_TooGreat F_rule_made g_rule_made
  have C_put_on : Cal PySem.Challenge.pw_sumcells_k14_rows_led_by_cells w K mg base 2 "put_on" 2 f_put_on := cal_put_on gF C_rule_told F_put_on g_put_on
  have C_rules_on : Cal PySem.Challenge.pw_sumcells_k14_rows_led_by_cells w K mg base 4 "rules_on" 2 f_rules_on := cal_rules_on gF C_rule_made C_put_on F_rules_on g_rules_on
  have C_rules_and : Cal PySem.Challenge.pw_sumcells_k14_rows_led_by_cells w K mg base 4 "rules_and" 2 f_rules_and := cal_rules_and gF C_rule_made C_rule_told F_rules_and g_rules_and
  have C_rule_turned : Cal PySem.Challenge.pw_sumcells_k14_rows_led_by_cells w K mg base 2 "rule_turned" 1 f_rule_turned := cal_rule_turned gF C_rule_told F_rule_turned g_rule_turned
  have C_rule_moved : Cal PySem.Challenge.pw_sumcells_k14_rows_led_by_cells w K mg base 1 "rule_moved" 2 f_rule_moved := cal_rule_moved gF F_rule_moved g_rule_moved
  have C_rule_split : Cal PySem.Challenge.pw_sumcells_k14_rows_led_by_cells w K mg base 2 "rule_split" 2 f_rule_split := cal_rule_split gF C_rule_told F_rule_split g_rule_split
  have C_row_led : Cal PySem.Challenge.pw_sumcells_k14_rows_led_by_cells w K mg base 5 "row_led" 2 f_row_led := cal_row_led gF C_rules_on F_row_led g_row_led
  have C_rows_plus : Cal PySem.Challenge.pw_sumcells_k14_rows_led_by_cells w K mg base 5 "rows_plus" 2 f_rows_plus := cal_rows_plus gF C_rules_and F_rows_plus g_rows_plus
  have C_cell_of : Cal PySem.Challenge.pw_sumcells_k14_rows_led_by_cells w K mg base 1 "cell_of" 2 f_cell_of := cal_cell_of gF F_cell_of g_cell_of
  have C_cells_led : Cal PySem.Challenge.pw_sumcells_k14_rows_led_by_cells w K mg base 1 "cells_led" 2 f_cells_led := cal_cells_led gF F_cells_led g_cells_led
  have C_first_lit : Cal PySem.Challenge.pw_sumcells_k14_rows_led_by_cells w K mg base 1 "first_lit" 1 f_first_lit := cal_first_lit gF F_first_lit g_first_lit
  have C__law_source : Cal PySem.Challenge.pw_sumcells_k14_rows_led_by_cells w K mg base 1 "_law_source" 1 f__law_source := cal__law_source gF F__law_source g__law_source
  have C__law_pick : Cal PySem.Challenge.pw_sumcells_k14_rows_led_by_cells w K mg base 1 "_law_pick" 2 f__law_pick := cal__law_pick gF F__law_pick g__law_pick
  have C__law_of : Cal PySem.Challenge.pw_sumcells_k14_rows_led_by_cells w K mg base 2 "_law_of" 2 f__law_of := cal__law_of gF C__law_pick F__law_of g__law_of
  have C__law_form : Cal PySem.Challenge.pw_sumcells_k14_rows_led_by_cells w K mg base 1 "_law_form" 2 f__law_form := cal__law_form gF F__law_form g__law_form
  have C__law_rule : Cal PySem.Challenge.pw_sumcells_k14_rows_led_by_cells w K mg base 2 "_law_rule" 4 f__law_rule := cal__law_rule gF C__law_pick C__law_form F__law_rule g__law_rule
  have C__law_at : Cal PySem.Challenge.pw_sumcells_k14_rows_led_by_cells w K mg base 1 "_law_at" 2 f__law_at := cal__law_at gF F__law_at g__law_at
  have C__law_led_at : Cal PySem.Challenge.pw_sumcells_k14_rows_led_by_cells w K mg base 2 "_law_led_at" 3 f__law_led_at := cal__law_led_at gF C__law_at F__law_led_at g__law_led_at
  have C__law_told : Cal PySem.Challenge.pw_sumcells_k14_rows_led_by_cells w K mg base 6 "_law_told" 3 f__law_told := cal__law_told gF C_row_led C_rows_plus E_TooGreat F__law_told g__law_told
  exact fn_ok F_law sc_law (fun cdv A outer s H E hgd hr => b_law gF C__law_source C__law_of C__law_rule C_rule_moved C_row_led C_rows_plus C_cell_of C__law_led_at C__law_form C__law_at C__law_pick C_rule_turned C_rule_split C_cells_led C_first_lit C__law_told C_span_of C_rule_told cdv A outer s H E hgd hr)
theorem law_true : ∀ ns : List Int, ns.length ≤ 63 → ∃ am, f_law [scrD (ns.map PyData.int)] none = .ret (.st (.bool true)) am := fun ns hl => law_true_of hl
end Law_k14
open PySem PySem.W PySem.Calls PyProof.Rows
set_option maxRecDepth 100000 in
set_option maxHeartbeats 0 in
theorem PySem.Challenge.cw_sumcells_k14_rows_led_by_cells_holds : PySem.Challenge.rw_sumcells_k14_rows_led_by_cells.Holds := by
  w_on; o_law
  refine HandSHeadRun.head_any (r := OpenLaw.row PySem.Challenge.rw_sumcells_k14_rows_led_by_cells) (q := view (OpenLaw.row PySem.Challenge.rw_sumcells_k14_rows_led_by_cells).prog [30]) (H := Law_k14.hk) (ob := Law_k14.ob) (M := 20000) (loose := Law_k14.loose) (d := HandSHeadRun.topDef (OpenLaw.row PySem.Challenge.rw_sumcells_k14_rows_led_by_cells).prog 30) (kwd := []) Law_k14.ob_eq
    (by kernel_rfl) (fun s => by kernel_rfl) Law_k14.run (by kernel_rfl) (by kernel_rfl) (by kernel_rfl) (by rfl) (by first | assumption | decide +kernel) (by decide +kernel) ⟨rfl, rfl, rfl, rfl, rfl, by decide +kernel⟩ ?hw ?hc
  case hw => w_witness2
  case hc =>
    refine Rf.walk_G (l := PySem.Challenge.rw_sumcells_k14_rows_led_by_cells) (n := 63) (k := 7) (x := "script") (f := Law_k14.f_law) rfl (by decide) (by kernel_rfl) ⟨rfl, by decide, by decide⟩ ?F Law_k14.law_true
    intro w mg fa h Y G hmg0
    obtain ⟨K, KX, c⟩ := Y
    have hmg : mg ("law" : PySem.Str) = some (.ref fa) := by
      have e : (HandSHeadRun.topDef (OpenLaw.row PySem.Challenge.rw_sumcells_k14_rows_led_by_cells).prog 30).name = ("law" : PySem.Str) := by kernel_rfl
      rw [← e]
      exact hmg0
    obtain ⟨fd, hb, hF⟩ := Law_k14.facts (w := w) KX G hmg c
    exact ⟨K, fd, KX, hb, hF⟩
