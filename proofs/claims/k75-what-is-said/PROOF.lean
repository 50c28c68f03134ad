import PyProof.Rows.All
import Wide.All
import OpenK.AllK
import Wide.FinOn
import HandS.ForMost
import HandS.ForExc
import HandS.IsInst
import HandS.Deep
import HandS.TupAny
import HandS.Wide
import HandS.Conv
import HandS.Flow
import HandS.Strs
import HandS.SortRule
import PySem.Challenge.RW_provenordenied_k75_what_is_said
set_option Elab.async false
set_option linter.all false
set_option maxRecDepth 100000
set_option maxHeartbeats 4000000
namespace DL
open PySem PySem.Spec PyProof.Rows L2
/-! ## tuples whose object is known to bear no dict (so that their methods can be called) -/
def SqU (K : PySem.W.Frag) (S : Hp) (a : Addr) (xs : List V) : Prop :=
  (∃ o : Obj, S a = some (.frz o (.tup xs)) ∧ o.dict = none) ∨
    ∃ (o : Obj) (its : Array Value) (n : Nat), K.lookup a = some o ∧ o.cls = .type "tuple" ∧ o.dict = none ∧ o.data = .seq its n ∧ its.size ≤ sizeLine ∧ Vals xs its.toList
theorem SqU.T {K : PySem.W.Frag} {S : Hp} {a : Addr} {xs : List V} (h : SqU K S a xs) : SqT K S a xs := by
  rcases h with ⟨o, h, _⟩ | ⟨o, its, n, h1, h2, _, h3, h4, h5⟩
  · exact .inl (.inr ⟨o, h⟩)
  · exact .inr ⟨o, its, n, h1, h2, h3, h4, h5⟩
theorem SqU.mono {K : PySem.W.Frag} {H H' : Hp} {a : Addr} {xs : List V} (e : Same H H') (h : SqU K H a xs) : SqU K H' a xs := by
  rcases h with ⟨o, h, d⟩ | h
  · exact .inl ⟨o, e _ _ h, d⟩
  · exact .inr h
section
variable {X : Cx} {es : List Expr} {t : TA} {pos : Pos}
theorem SqU.at {pins : List (Addr × Obj)} {σ : L2.St} {H : Hp} {s : Shared} {a : Addr} {xs : List V} (I : L2.Inv X pins σ H s) (h : SqU X.K H a xs) : ∃ (its : List Value) (o : Obj) (n : Nat), Vals xs its ∧ s.heap.get? a = some o ∧ o.cls = .type "tuple" ∧ o.dict = none ∧ o.data = .seq its.toArray n ∧ xs.length ≤ sizeLine := by
  rcases h with ⟨o, h, d⟩ | ⟨o, its, n, h1, h2, h3, h4, h5, h6⟩
  · obtain ⟨e, z, its, r, o', h1, h2, n, h3⟩ := I.hok a _ h
    rw [e] at h1
    cases h1
    exact ⟨its, o, n, r, e, h2, d, h3, z⟩
  · refine ⟨its.toList, o, n, h6, I.kIn a o h1, h2, h3, by rw [Array.toArray_toList]; exact h4, ?_⟩
    rw [h6.length, Array.length_toList]; exact h5
def tTupF (t : TA) : TE := fun σ H Q => t σ H fun xs H1 => xs.length ≤ sizeLine ∧ ∀ (p : Addr) (o : Obj), H1 p = none → o.dict = none → Q (.ref p) (upd H1 p (.frz o (.tup xs)))
theorem laidF {pins : List (Addr × Obj)} {σ : L2.St} {H : Hp} {s : Shared} {xs : List V} {us : List Value} (I : L2.Inv X pins σ H s) (r : Vals xs us) (z : xs.length ≤ sizeLine) {t' : Nat} :
    L2.Inv X pins σ (upd H s.heap.objs.size (.frz { cls := .type "tuple", data := .seq us.toArray } (.tup xs))) { s with heap := s.heap.push { cls := .type "tuple", data := .seq us.toArray }, toks := t' } :=
  I.laid (t' := t') (fun b u e => Heap.get?_push_of_some _ e) (Nat.le_refl _) ⟨Heap.get?_push_size _ rfl, z, us, r, ⟨_, Heap.get?_push_size _ rfl, rfl, _, rfl⟩⟩
theorem pe_tupF {x1} (h : PA X es t) : PE X (.Tuple es x1 pos) (tTupF t) := by
  refine ⟨fun pins s σ H Q I hq => ?_⟩
  refine wpAny_Tuple_spliced (thn (h.run pos pins s σ H _ I hq) fun us s1 ⟨xs, H1, I1, r, z, q⟩ => ⟨by rw [← r.length]; exact z, ?_⟩)
  exact ⟨.ref s1.heap.objs.size, _, laidF (t' := s1.toks) I1 r z, rfl, q _ _ (I1.hok.fresh (Nat.le_refl _)) rfl⟩
theorem call_tupleF : CallR X (.type "tuple") (fun xs H Q => ∃ p ys, xs = [.ref p] ∧ ((SqL X.K H p ys ∧ ∀ (l : Addr) (o : Obj), H l = none → o.dict = none → Q (.ref l) (upd H l (.frz o (.tup ys)))) ∨ (SqT X.K H p ys ∧ Q (.ref p) H))) := by
  intro pins s σ H xs us Q I r h
  obtain ⟨p, ys, rfl, h⟩ := h
  obtain ⟨u, rfl, rx⟩ := vals1 r
  cases rx
  rcases h with ⟨hq, q⟩ | ⟨hq, q⟩
  · obtain ⟨its, r', pl, hz⟩ := I.list hq
    have hlen := r'.length
    refine call_tuple_list pl.isList (fun h' kp => ?_) (by simp only [List.size_toArray] <;> omega)
    have I1 : L2.Inv X pins σ H { s with heap := h' } := I.kept (t' := s.toks) kp
    exact ⟨.ref h'.objs.size, _, laidF (t' := s.toks) I1 r' hz, rfl, q _ _ (I1.hok.fresh (Nat.le_refl _)) rfl⟩
  · obtain ⟨its, r', pl, hz⟩ := I.tuple hq
    exact call_tuple_same pl ⟨.ref p, H, I, rfl, q⟩
def rCatF (K : PySem.W.Frag) : R2 := fun x y H Q => ∃ a b xs ys, x = .ref a ∧ y = .ref b ∧ SqT K H a xs ∧ SqT K H b ys ∧ xs.length + ys.length ≤ sizeLine ∧
  (xs = [] → Q (.ref b) H) ∧ (xs ≠ [] → ys = [] → Q (.ref a) H) ∧ (xs ≠ [] → ys ≠ [] → ∀ (p : Addr) (o : Obj), H p = none → o.dict = none → Q (.ref p) (upd H p (.frz o (.tup (xs ++ ys)))))
theorem op_catF : OpR X (binaryOp .Add) (rCatF X.K) := by
  intro pins s σ H x y v u Q I rx ry h
  obtain ⟨a, b, xs, ys, rfl, rfl, ha, hb, hz, q0, q1, q2⟩ := h
  by_cases hx : xs = []
  · subst hx
    cases rx
    cases ry
    obtain ⟨its, r1, p1, _⟩ := I.tuple ha
    obtain ⟨its2, r2, p2, _⟩ := I.tuple hb
    cases r1
    exact cat_tup0 p1 p2 ⟨.ref b, H, I, rfl, q0 rfl⟩
  · cases rx
    cases ry
    obtain ⟨its, r1, p1, _⟩ := I.tuple ha
    obtain ⟨its2, r2, p2, _⟩ := I.tuple hb
    refine HT.cat_tup p1 p2 (fun z => hx (r1.nil_iff.mp z)) (fun z => ⟨.ref a, H, I, rfl, q1 hx (r2.nil_iff.mp z)⟩) (fun z => ?_) (by rw [← r1.length, ← r2.length]; exact hz)
    exact ⟨.ref s.heap.objs.size, _, laidF (t' := s.toks) I (r1.append r2) (by rw [List.length_append]; exact hz), rfl, q2 hx (fun w => z (r2.nil_iff.mpr w)) _ _ (I.hok.fresh (Nat.le_refl _)) rfl⟩
def rSlF (K : PySem.W.Frag) : V → Option Int → Option Int → Hp → VK → Prop := fun x lo hi H Q => ∃ a xs, x = .ref a ∧ SqT K H a xs ∧
  (HT.sIx xs.length 0 lo = 0 ∧ HT.sIx xs.length xs.length hi = xs.length → Q (.ref a) H) ∧ (¬ (HT.sIx xs.length 0 lo = 0 ∧ HT.sIx xs.length xs.length hi = xs.length) → ∀ (p : Addr) (o : Obj), H p = none → o.dict = none → Q (.ref p) (upd H p (.frz o (.tup (cutV xs lo hi)))))
theorem sl_tupF : SlR X (rSlF X.K) := by
  intro pins s σ H x v vl vu lo hi sl Q I rx hs pl pu h
  obtain ⟨a, xs, rfl, hx, q1, q2⟩ := h
  cases rx
  obtain ⟨its, r, ht, hz⟩ := I.tuple hx
  have hlen : its.toArray.size = xs.length := by rw [List.size_toArray]; exact r.length.symm
  refine ⟨"tuple", _, PyProof.Rows.slot_tuple_getitem.lookup, ht.typeIs, ?_⟩
  by_cases hw : HT.sIx xs.length 0 lo = 0 ∧ HT.sIx xs.length xs.length hi = xs.length
  · exact getItem_tuple_whole ht hs pl pu (by rw [hlen]; exact hw) ⟨.ref a, H, I, rfl, q1 hw⟩
  · refine HT.getItem_tuple_cut ht hs pl pu (by rw [hlen]; exact hw) ?_ (by rw [hlen]; exact hz)
    rw [hlen]
    exact ⟨.ref s.heap.objs.size, _, laidF (t' := s.toks) I ((r.drop (HT.sIx xs.length 0 lo)).take (HT.sIx xs.length xs.length hi - HT.sIx xs.length 0 lo)) (Nat.le_trans (cutV_length xs lo hi) hz), rfl, q2 hw _ _ (I.hok.fresh (Nat.le_refl _)) rfl⟩
/-! ### t.m(..), t a tuple -/
variable {o e : Expr} {name : Str} {id : String} {apos cpos : Pos} {to : TE} {r : V → List V → Hp → VK → Prop}
def tBMU (K : PySem.W.Frag) (r : V → List V → Hp → VK → Prop) (to : TE) (t : TA) : TE := fun σ H Q => to σ H fun x H1 => (∃ p xs, x = .ref p ∧ SqU K H1 p xs) ∧ t σ H1 fun xs H2 => r x xs H2 Q
theorem pe_bmU (slot : Slot "tuple" name id) (hty : typeOf (.builtin id) = pure (.type "method_descriptor")) (hm : MtR X id r) (ho : PE X o to) (ha : PA X (e :: es) t)
    (hbase : attributeBase o name X.env (eval o X.env) = eval o X.env := by rfl)
    (hfew : ((backTo cpos (starEach (e :: es) X.env)).all (fun x => !x.1) && (backToKw cpos (keywordEach [] X.env)).all (fun x => x.1.isSome)
      && decide ((e :: es).length + ([] : List Keyword).length + (if ([] : List Keyword).isEmpty then 0 else 1) < 30)) = true := by rfl)
    (hline : (apos.endLine == cpos.line) = true := by rfl) (hs : starEach (e :: es) X.env = (false, eval e X.env) :: starEach es X.env := by rfl) (hplain : (backTo cpos (starEach es X.env)).any (·.1) = false := by rfl) :
    PE X (.Call (.Attribute o name apos) (e :: es) [] cpos) (tBMU X.K r to t) := by
  refine ⟨fun pins s σ H Q I h => ?_⟩
  refine wpAny_Call_method_late hbase hfew hline rfl (thn (ho.run pins s σ H _ I h) fun v s1 ⟨x, H1, I1, r1, ty, q1⟩ => ?_)
  obtain ⟨p, xs, rfl, hu⟩ := ty
  obtain ⟨its, ob, n, _, h1, h2, h3, _⟩ := hu.at I1
  cases r1
  refine ⟨"tuple", id, PySem.F.plainAttrs_tuple, slot, hty, ⟨ob, h1, h2⟩, fun a e => ?_, ?_⟩
  · cases e
    exact ⟨ob, h1, h3⟩
  have hA := ha.run cpos pins s1 σ H1 _ I1 q1
  rw [hs] at hA ⊢
  refine Calls.callWith_builtin (by show (false || (backTo cpos (starEach es X.env)).any (·.1)) = false; rw [hplain] <;> rfl) (Calls.evalArgs_plain ?_)
  exact thn hA fun us s2 ⟨vs, H2, I2, r2, q2⟩ => hm pins s2 σ H2 (.ref p) vs (.ref p) us Q I2 rfl r2 q2
/-- t.index(x): the first place of an equal one -/
def rIndexT (K : PySem.W.Frag) : V → List V → Hp → VK → Prop := fun x xs H Q => ∃ (a : Addr) (y : V) (d : PyData) (ds : List PyData) (j : Nat) (z : PyData), x = V.ref a ∧ xs = [y] ∧ Dp K H (V.ref a) (.tuple ds) ∧ Dp K H y d ∧
  SeqAt.shaped (.tuple ds) = true ∧ SeqAt.shaped d = true ∧ ds[j]? = some z ∧ PyData.eqv z d = true ∧ (∀ (m : Nat) (z' : PyData), m < j → ds[m]? = some z' → PyData.eqv z' d = false) ∧ Q (.int (j : Nat)) H
theorem mt_indexT (hu : X.A.units + 65 < cLine) : MtR X "tuple.index" (rIndexT X.K) := by
  intro pins s σ H x xs v us Q I rx rxs h
  obtain ⟨a, y, d, ds, j, z, rfl, rfl, hl, hy, sl, sd, hz, hzj, hno, q⟩ := h
  cases rx
  cases rxs with
  | cons ry rt =>
    rename_i uy ut
    cases rt
    obtain ⟨bs, r1⟩ := Dp.reads I d y uy hy ry
    have hxs : PyData.canLayAll0 ds = true := SeqAt.canLay_of_shaped sl
    have hroom : X.A.units + 1 + min (PyData.depthAll ds) d.depth < cLine := room_in_shaped sd hu
    cases hl with
    | tup hs ha =>
      obtain ⟨its, rv, ⟨⟨cls, dd, data, sls⟩, ho, hc, n, hdt⟩, hlen⟩ := I.tuple hs
      simp only at hc hdt
      subst hc hdt
      obtain ⟨as, h4⟩ := Dp.readsAll I ds _ its ha rv
      have hn : its.length = ds.length := SeqAt.ReadsAll.length ds its as h4
      have hmap : its.map (SeqAt.readOf s.heap) = ds := SeqAt.readsAll_map ds its as hxs h4
      have hvl := rv.length
      obtain ⟨hjd, _⟩ := List.getElem?_eq_some_iff.mp hz
      have hjl : j < its.length := by omega
      have hj : j < its.toArray.size := by simpa using hjl
      have at_ : ∀ (m : Nat) (hm : m < its.toArray.size) (z' : PyData), ds[m]? = some z' → SeqAt.readOf s.heap its.toArray[m] = z' := by
        intro m hm z' hz'
        have hml : m < its.length := by simpa using hm
        rw [← hmap, List.getElem?_map, List.getElem?_eq_getElem hml] at hz'
        have e1 : SeqAt.readOf s.heap its[m] = z' := Option.some.inj (show some (SeqAt.readOf s.heap its[m]) = some z' from hz')
        simpa using e1
      refine call_meets PySem.F.slot_tuple_index ⟨_, ho, rfl⟩ PySem.F.entry_tuple_index (PySem.F.args_tuple_index_2 _ _)
        (TI.tuple_indexAt a its.toArray n dd sls uy (fun u => PyData.eqv (SeqAt.readOf s.heap u) d) j hj ?_ ?_) ⟨ho, SeqAt.items_eqAt (vs := its.toArray) (show ReadsAll s.heap its.toArray.toList ds as from h4) r1 hxs (SeqAt.canLay_of_shaped sd) hroom, ?_⟩
      · show PyData.eqv (SeqAt.readOf s.heap its.toArray[j]) d = true
        rw [at_ j hj z hz]
        exact hzj
      · intro m hm hmj
        have hmd : m < ds.length := by have : m < its.length := by simpa using hm
                                       omega
        have hz' : ds[m]? = some ds[m] := List.getElem?_eq_getElem hmd
        show PyData.eqv (SeqAt.readOf s.heap its.toArray[m]) d = false
        rw [at_ m hm _ hz']
        exact hno m _ hmj hz'
      · exact ⟨.int (j : Nat), H, I.tok _, ⟨_, rfl⟩, q⟩
end
end DL

set_option Elab.async false
set_option linter.all false
set_option maxRecDepth 100000
set_option maxHeartbeats 4000000
namespace DL
open PySem PySem.Spec PyProof.Rows L2

abbrev St := L2.St
/-! ## data -/
def kD : Key → PyData
  | .inl i => .int i
  | .inr x => .str x

mutual
inductive R (K : PySem.W.Frag) (S : Hp) : V → PyData → Prop
  | non : R K S .non .none
  | bl (b : Bool) : R K S (.bl b) (.bool b)
  | int (i : Int) : R K S (.int i) (.int i)
  | str (x : Str) : R K S (.str x) (.str x)
  | lst {a : Addr} {xs : List V} {ds : List PyData} : SqL K S a xs → ds.length ≤ sizeLine → RL K S xs ds → R K S (.ref a) (.list ds)
  | tup {a : Addr} {xs : List V} {ds : List PyData} : SqU K S a xs → ds.length ≤ sizeLine → RL K S xs ds → R K S (.ref a) (.tuple ds)
  | dct {a : Addr} {kvs : List (Key × V)} {ds : List (PyData × PyData)} : S a = some (.dK kvs) → RK K S kvs ds → R K S (.ref a) (.dict ds)
inductive RL (K : PySem.W.Frag) (S : Hp) : List V → List PyData → Prop
  | nil : RL K S [] []
  | cons {v : V} {vs : List V} {d : PyData} {ds : List PyData} : R K S v d → RL K S vs ds → RL K S (v :: vs) (d :: ds)
inductive RK (K : PySem.W.Frag) (S : Hp) : List (Key × V) → List (PyData × PyData) → Prop
  | nil : RK K S [] []
  | cons {k : Key} {v : V} {kvs : List (Key × V)} {d : PyData} {ds : List (PyData × PyData)} : R K S v d → RK K S kvs ds → RK K S ((k, v) :: kvs) ((kD k, d) :: ds)
end

theorem sqT_mono {K : PySem.W.Frag} {H H' : Hp} {a : Addr} {xs : List V} (e : Same H H') (h : SqT K H a xs) : SqT K H' a xs := by
  rcases h with (h | ⟨o, h⟩) | h
  · exact .inl (.inl (e _ _ h))
  · exact .inl (.inr ⟨o, e _ _ h⟩)
  · exact .inr h

theorem R.mono {K : PySem.W.Frag} {S S' : Hp} (e : Same S S') {v : V} {d : PyData} (h : R K S v d) : R K S' v d := by
  refine R.rec (K := K) (S := S) (motive_1 := fun v d _ => R K S' v d) (motive_2 := fun v d _ => RL K S' v d) (motive_3 := fun v d _ => RK K S' v d)
    .non .bl .int .str (fun a b _ q => .lst (e.seq a) b q) (fun a b _ q => .tup (a.mono e) b q) (fun a _ q => .dct (e _ _ a) q) .nil (fun _ _ p q => .cons p q) .nil (fun _ _ p q => .cons p q) h
theorem RL.mono {K : PySem.W.Frag} {S S' : Hp} (e : Same S S') : ∀ {v : List V} {d : List PyData} (_ : RL K S v d), RL K S' v d
  | _, _, .nil => .nil
  | _, _, .cons p q => .cons (p.mono e) (RL.mono e q)
theorem RK.mono {K : PySem.W.Frag} {S S' : Hp} (e : Same S S') : ∀ {v : List (Key × V)} {d : List (PyData × PyData)} (_ : RK K S v d), RK K S' v d
  | _, _, .nil => .nil
  | _, _, .cons p q => .cons (p.mono e) (RK.mono e q)
theorem RL.length {K : PySem.W.Frag} {S : Hp} : ∀ {v : List V} {d : List PyData} (_ : RL K S v d), v.length = d.length
  | _, _, .nil => rfl
  | _, _, .cons p q => congrArg (· + 1) (RL.length q)
theorem RL.append {K : PySem.W.Frag} {S : Hp} : ∀ {v v' : List V} {d d' : List PyData} (_ : RL K S v d) (_ : RL K S v' d'), RL K S (v ++ v') (d ++ d')
  | _, _, _, _, .nil, r => r
  | _, _, _, _, .cons p q, r => .cons p (RL.append q r)
theorem RL.get {K : PySem.W.Frag} {S : Hp} : ∀ {v : List V} {d : List PyData} (_ : RL K S v d) {i : Nat} {x : PyData}, d[i]? = some x → ∃ u, v[i]? = some u ∧ R K S u x
  | _, _, .nil, _, _, h => by simp at h
  | _, _, .cons p q, 0, _, h => by
    simp at h; subst h; exact ⟨_, rfl, p⟩
  | _, _, .cons p q, i + 1, x, h => by
    obtain ⟨u, h1, h2⟩ := RL.get q (i := i) (x := x) (by simpa using h)
    exact ⟨u, by simpa using h1, h2⟩
theorem RL.getV {K : PySem.W.Frag} {S : Hp} : ∀ {v : List V} {d : List PyData} (_ : RL K S v d) {i : Nat} {u : V}, v[i]? = some u → ∃ x, d[i]? = some x ∧ R K S u x
  | _, _, .nil, _, _, h => by simp at h
  | _, _, .cons p q, 0, _, h => by
    simp at h; subst h; exact ⟨_, rfl, p⟩
  | _, _, .cons p q, i + 1, x, h => by
    obtain ⟨u, h1, h2⟩ := RL.getV q (i := i) (u := x) (by simpa using h)
    exact ⟨u, by simpa using h1, h2⟩
theorem RL.take {K : PySem.W.Frag} {S : Hp} : ∀ (n : Nat) {v : List V} {d : List PyData} (_ : RL K S v d), RL K S (v.take n) (d.take n)
  | 0, _, _, _ => .nil
  | _ + 1, _, _, .nil => .nil
  | n + 1, _, _, .cons p q => .cons p (RL.take n q)
theorem RL.drop {K : PySem.W.Frag} {S : Hp} : ∀ (n : Nat) {v : List V} {d : List PyData} (_ : RL K S v d), RL K S (v.drop n) (d.drop n)
  | 0, _, _, r => r
  | _ + 1, _, _, .nil => .nil
  | n + 1, _, _, .cons p q => RL.drop n q
theorem RL.set {K : PySem.W.Frag} {S : Hp} {u : V} {x : PyData} (r : R K S u x) : ∀ (n : Nat) {v : List V} {d : List PyData} (_ : RL K S v d), RL K S (v.set n u) (d.set n x)
  | _, _, _, .nil => .nil
  | 0, _, _, .cons p q => .cons r q
  | n + 1, _, _, .cons p q => .cons p (RL.set r n q)

mutual
def imm : PyData → Bool
  | .list _ => false
  | .dict _ => false
  | .tuple ds => immL ds
  | .none => true
  | .bool _ => true
  | .int _ => true
  | .str _ => true
def immL : List PyData → Bool
  | [] => true
  | x :: xs => imm x && immL xs
end
theorem immL_all : ∀ {ds : List PyData}, immL ds = true ↔ ∀ x ∈ ds, imm x = true
  | [] => by simp [immL]
  | x :: xs => by simp [immL, immL_all (ds := xs)]
theorem immL_append {a b : List PyData} : immL (a ++ b) = (immL a && immL b) := by
  induction a with
  | nil => simp [immL]
  | cons x xs ih => simp [immL, ih, Bool.and_assoc]
/-- what is immutable leans on tuples alone -/
theorem R.imm_to {K : PySem.W.Frag} {S S' : Hp} (e : ∀ a xs, SqU K S a xs → SqU K S' a xs) {v : V} {d : PyData} (h : R K S v d) : imm d = true → R K S' v d := by
  refine R.rec (K := K) (S := S) (motive_1 := fun v d _ => imm d = true → R K S' v d) (motive_2 := fun v d _ => immL d = true → RL K S' v d) (motive_3 := fun v d _ => True)
    (fun _ => .non) (fun b _ => .bl b) (fun i _ => .int i) (fun x _ => .str x) (fun a b _ q h => by simp [imm] at h) (fun a b _ q h => .tup (e _ _ a) b (q (by simpa [imm] using h))) (fun a _ q h => by simp [imm] at h) (fun _ => .nil) (fun _ _ p q h => ?_) trivial (fun _ _ p q => trivial) h
  simp only [immL, Bool.and_eq_true] at h
  exact .cons (p h.1) (q h.2)
theorem RL.imm_to {K : PySem.W.Frag} {S S' : Hp} (e : ∀ a xs, SqU K S a xs → SqU K S' a xs) : ∀ {v : List V} {d : List PyData} (_ : RL K S v d), immL d = true → RL K S' v d
  | _, _, .nil, _ => .nil
  | _, _, .cons p q, h => by
    simp only [immL, Bool.and_eq_true] at h
    exact .cons (p.imm_to e h.1) (RL.imm_to e q h.2)

/-- to the layer's own data relation -/
theorem R.dp {K : PySem.W.Frag} {S H : Hp} (e : Same S H) {v : V} {d : PyData} (h : R K S v d) : d.canLay0 = true → Dp K H v d := by
  refine R.rec (K := K) (S := S) (motive_1 := fun v d _ => d.canLay0 = true → Dp K H v d) (motive_2 := fun v d _ => PyData.canLayAll0 d = true → DpAll K H v d) (motive_3 := fun v d _ => True)
    (fun _ => .non) (fun b _ => .bl b) (fun i _ => .int i) (fun x _ => .str x) (fun a b _ q h => .lst (e.seq a) (q (by simpa [PyData.canLay0] using h))) (fun a b _ q h => .tup (a.mono e).T (q (by simpa [PyData.canLay0] using h))) (fun a _ q h => by simp [PyData.canLay0] at h) (fun _ => .nil) (fun _ _ p q h => ?_) trivial (fun _ _ p q => trivial) h
  simp only [PyData.canLayAll0, Bool.and_eq_true] at h
  exact .cons (p h.1) (q h.2)

/-! ## ghosts, steps, contexts -/
structure Gh where
  T : Type
  ok : T → Hp → Prop
  dom : Addr → Prop
  loc : ∀ (t : T) (H H' : Hp), (∀ a, dom a → H' a = H a) → ok t H → ok t H'
abbrev G0 : Gh := ⟨Unit, fun _ _ => True, fun _ => False, fun _ _ _ _ _ => trivial⟩

structure Stp (G : Gh) (S H S' H' : Hp) : Prop where
  s : Same S S'
  k : ∀ a o, ¬ G.dom a → H a = some o → H' a = some o
  n : ∀ a, H a ≠ none → S a = none → S' a = none
  p : ∀ a, H a ≠ none → H' a ≠ none
theorem Stp.refl (G : Gh) (S H : Hp) : Stp G S H S H := ⟨Same.refl _, fun _ _ _ h => h, fun _ _ h => h, fun _ h => h⟩
theorem Stp.trans {G : Gh} {S H S1 H1 S2 H2 : Hp} (a : Stp G S H S1 H1) (b : Stp G S1 H1 S2 H2) : Stp G S H S2 H2 :=
  ⟨a.s.trans b.s, fun c o h q => b.k c o h (a.k c o h q), fun c h q => b.n c (a.p c h) (a.n c h q), fun c h => b.p c (a.p c h)⟩

inductive Ag | no | d (x : PyData) | rf (a : Addr)
abbrev En := List Ag
inductive AgR (K : PySem.W.Frag) (S : Hp) : V → Ag → Prop
  | d {v : V} {x : PyData} (h : R K S v x) : AgR K S v (.d x)
  | rf (a : Addr) : AgR K S (.ref a) (.rf a)
theorem AgR.mono {K : PySem.W.Frag} {S S' : Hp} (e : Same S S') {v : V} {d : Ag} (h : AgR K S v d) : AgR K S' v d := by
  cases h with
  | d h => exact .d (h.mono e)
  | rf a => exact .rf a
inductive AsR (K : PySem.W.Frag) (S : Hp) : List V → List Ag → Prop
  | nil : AsR K S [] []
  | cons {v : V} {vs : List V} {d : Ag} {ds : List Ag} : AgR K S v d → AsR K S vs ds → AsR K S (v :: vs) (d :: ds)
theorem AsR.mono {K : PySem.W.Frag} {S S' : Hp} (e : Same S S') : ∀ {v : List V} {d : List Ag} (_ : AsR K S v d), AsR K S' v d
  | _, _, .nil => .nil
  | _, _, .cons p q => .cons (p.mono e) (AsR.mono e q)
theorem AsR.length {K : PySem.W.Frag} {S : Hp} : ∀ {v : List V} {d : List Ag} (_ : AsR K S v d), v.length = d.length
  | _, _, .nil => rfl
  | _, _, .cons p q => congrArg (· + 1) (AsR.length q)

def EnvR (K : PySem.W.Frag) (S : Hp) (σ : St) (ρ : En) : Prop :=
  σ.length = ρ.length ∧ ∀ (i : Nat) (x : Ag), ρ[i]? = some x → x ≠ .no → ∃ v, σ[i]? = some (some v) ∧ AgR K S v x
structure Ctx (K : PySem.W.Frag) (G : Gh) (S H : Hp) (σ : St) (ρ : En) (g : G.T) : Prop where
  sh : Same S H
  env : EnvR K S σ ρ
  gok : G.ok g H
  gs : ∀ a, G.dom a → S a = none
  gh : ∀ a, G.dom a → H a ≠ none
theorem EnvR.mono {K : PySem.W.Frag} {S S' : Hp} {σ : St} {ρ : En} (e : Same S S') (h : EnvR K S σ ρ) : EnvR K S' σ ρ :=
  ⟨h.1, fun i x a b => let ⟨v, p, q⟩ := h.2 i x a b; ⟨v, p, q.mono e⟩⟩
theorem Ctx.step {K : PySem.W.Frag} {G : Gh} {S H S' H' : Hp} {σ : St} {ρ : En} {g g' : G.T} (c : Ctx K G S H σ ρ g) (t : Stp G S H S' H') (sh : Same S' H') (ok : G.ok g' H') : Ctx K G S' H' σ ρ g' :=
  ⟨sh, c.env.mono t.s, ok, fun a h => t.n a (c.gh a h) (c.gs a h), fun a h => t.p a (c.gh a h)⟩

/-- a pure step: new objects alone -/
inductive Ext (S H : Hp) : Hp → Hp → Prop
  | refl : Ext S H S H
  | new {S' H' : Hp} {p : Addr} {o : HO} : Ext S H S' H' → H' p = none → Ext S H (upd S' p o) (upd H' p o)
  | junk {S' H' : Hp} {p : Addr} {o : HO} : Ext S H S' H' → H' p = none → Ext S H S' (upd H' p o)
theorem same_new {H : Hp} {p : Addr} {o : HO} (h : H p = none) : Same H (upd H p o) := fun b u q => by rw [upd_ne (ne_of_none q h)]; exact q
theorem Ext.to {G : Gh} {S H S' H' : Hp} (e : Ext S H S' H') (sh : Same S H) (gh : ∀ a, G.dom a → H a ≠ none) : Stp G S H S' H' ∧ Same S' H' ∧ ∀ a, G.dom a → H' a = H a := by
  induction e with
  | refl => exact ⟨Stp.refl _ _ _, sh, fun _ _ => rfl⟩
  | @new S1 H1 p o e hp ih =>
    obtain ⟨t, s, l⟩ := ih
    have hs : S1 p = none := s.free hp
    have ne : ∀ a, H a ≠ none → a ≠ p := fun a h z => by subst z; exact t.p a h hp
    refine ⟨⟨t.s.trans (same_new hs), fun a u h q => ?_, fun a h q => ?_, fun a h => ?_⟩, fun a u q => ?_, fun a h => ?_⟩
    · rw [upd_ne (ne a (by rw [q]; exact fun z => nomatch z))]; exact t.k a u h q
    · rw [upd_ne (ne a h)]; exact t.n a h q
    · rw [upd_ne (ne a h)]; exact t.p a h
    · by_cases z : a = p
      · subst z; rw [upd_same] at q ⊢; exact q
      · rw [upd_ne z] at q ⊢; exact s a u q
    · rw [upd_ne (ne a (gh a h))]; exact l a h
  | @junk S1 H1 p o e hp ih =>
    obtain ⟨t, s, l⟩ := ih
    have hs : S1 p = none := s.free hp
    have ne : ∀ a, H a ≠ none → a ≠ p := fun a h z => by subst z; exact t.p a h hp
    refine ⟨⟨t.s, fun a u h q => ?_, fun a h q => t.n a h q, fun a h => ?_⟩, fun a u q => ?_, fun a h => ?_⟩
    · rw [upd_ne (ne a (by rw [q]; exact fun z => nomatch z))]; exact t.k a u h q
    · rw [upd_ne (ne a h)]; exact t.p a h
    · have z : a ≠ p := fun z => by subst z; rw [hs] at q; cases q
      rw [upd_ne z]; exact s a u q
    · rw [upd_ne (ne a (gh a h))]; exact l a h
theorem Ctx.ext {K : PySem.W.Frag} {G : Gh} {S H S' H' : Hp} {σ : St} {ρ : En} {g : G.T} (c : Ctx K G S H σ ρ g) (e : Ext S H S' H') : Stp G S H S' H' ∧ Ctx K G S' H' σ ρ g := by
  obtain ⟨t, s, l⟩ := e.to c.sh c.gh
  exact ⟨t, c.step t s (G.loc _ _ _ l c.gok)⟩

/-! ## expressions -/
abbrev Fe (G : Gh) := En → G.T → Option (PyData × G.T)
abbrev Fa (G : Gh) := En → G.T → Option (List Ag × G.T)
abbrev Ft (G : Gh) := En → G.T → Option (Bool × G.T)
def mb {α β T : Type} (m : Option (α × T)) (k : α → T → Option (β × T)) : Option (β × T) := match m with
  | none => none
  | some (a, t) => k a t
@[simp] theorem mb_some {α β T : Type} (a : α) (t : T) (k : α → T → Option (β × T)) : mb (some (a, t)) k = k a t := rfl
@[simp] theorem mb_none {α β T : Type} (k : α → T → Option (β × T)) : mb none k = none := rfl
theorem mb_inv {α β T : Type} {m : Option (α × T)} {k : α → T → Option (β × T)} {r : β × T} (h : mb m k = some r) : ∃ a t, m = some (a, t) ∧ k a t = some r := by
  cases m with
  | none => cases h
  | some p => exact ⟨p.1, p.2, rfl, h⟩
def mp {α T : Type} (o : Option α) (t : T) : Option (α × T) := match o with
  | none => none
  | some a => some (a, t)
@[simp] theorem mp_some {α T : Type} (a : α) (t : T) : mp (some a) t = some (a, t) := rfl
@[simp] theorem mp_none {α T : Type} (t : T) : mp (none : Option α) t = none := rfl
theorem mp_inv {α T : Type} {o : Option α} {t t' : T} {a : α} (h : mp o t = some (a, t')) : o = some a ∧ t' = t := by
  cases o with
  | none => cases h
  | some b => simp at h; exact ⟨by rw [h.1], h.2.symm⟩

def Ad (K : PySem.W.Frag) (G : Gh) (t : TE) (f : Fe G) : Prop :=
  ∀ (σ : St) (H S : Hp) (ρ : En) (g : G.T) (d : PyData) (g' : G.T) (Q : VK), Ctx K G S H σ ρ g → f ρ g = some (d, g') →
    (∀ v S' H', Stp G S H S' H' → Ctx K G S' H' σ ρ g' → R K S' v d → Q v H') → t σ H Q
def AdA (K : PySem.W.Frag) (G : Gh) (t : TA) (f : Fa G) : Prop :=
  ∀ (σ : St) (H S : Hp) (ρ : En) (g : G.T) (d : List Ag) (g' : G.T) (Q : List V → Hp → Prop), Ctx K G S H σ ρ g → f ρ g = some (d, g') →
    (∀ v S' H', Stp G S H S' H' → Ctx K G S' H' σ ρ g' → AsR K S' v d → Q v H') → t σ H Q
def AdT (K : PySem.W.Frag) (G : Gh) (t : TT) (f : Ft G) : Prop :=
  ∀ (σ : St) (H S : Hp) (ρ : En) (g : G.T) (d : Bool) (g' : G.T) (Q : Bool → Hp → Prop), Ctx K G S H σ ρ g → f ρ g = some (d, g') →
    (∀ S' H', Stp G S H S' H' → Ctx K G S' H' σ ρ g' → Q d H') → t σ H Q
/-- a new list (or dict) -/
def AdN (K : PySem.W.Frag) (G : Gh) (t : TE) (f : En → G.T → Option (List PyData × G.T)) : Prop :=
  ∀ (σ : St) (H S : Hp) (ρ : En) (g : G.T) (d : List PyData) (g' : G.T) (Q : VK), Ctx K G S H σ ρ g → f ρ g = some (d, g') →
    (∀ a vs S' H', Stp G S H S' H' → Ctx K G S' H' σ ρ g' → H a = none → S' a = none → H' a = some (.lst vs) → RL K S' vs d → d.length ≤ sizeLine → Q (.ref a) H') → t σ H Q
structure DE (X : Cx) (K : PySem.W.Frag) (G : Gh) (e : Expr) (t : TE) (f : Fe G) : Prop where
  pe : PE X e t
  ad : Ad K G t f
structure DN (X : Cx) (K : PySem.W.Frag) (G : Gh) (e : Expr) (t : TE) (f : En → G.T → Option (List PyData × G.T)) : Prop where
  pe : PE X e t
  ad : AdN K G t f
structure DA (X : Cx) (K : PySem.W.Frag) (G : Gh) (es : List Expr) (t : TA) (f : Fa G) : Prop where
  pe : PA X es t
  ad : AdA K G t f
structure DT (X : Cx) (K : PySem.W.Frag) (G : Gh) (e : Expr) (t : TT) (f : Ft G) : Prop where
  pe : PT X e t
  ad : AdT K G t f
structure DW (X : Cx) (K : PySem.W.Frag) (G : Gh) (e : Expr) (t : TT) (f : Ft G) : Prop where
  pe : PW X e t
  ad : AdT K G t f

section
variable {X : Cx} {K : PySem.W.Frag} {G : Gh} {a b c e : Expr} {es : List Expr} {ta tb tc te : TE} {t u : TA} {tA tB' : TT} {pos p : Pos} {x : Str}
def fVar {G : Gh} (i : Nat) : Fe G := fun ρ g => match ρ[i]? with
  | some (.d x) => some (x, g)
  | _ => none
theorem de_var {i : Nat} (h : PE X e (tVar i)) : DE X K G e (tVar i) (fVar i) := ⟨h, fun σ H S ρ g d g' Q c hf q => by
  unfold fVar at hf
  split at hf
  · rename_i x hx
    cases hf
    obtain ⟨v, hv, r⟩ := c.env.2 i _ hx (fun z => nomatch z)
    cases r with
    | d r => exact ⟨v, hv, q v S H (Stp.refl _ _ _) c r⟩
  · cases hf⟩
theorem dv (i : Nat) {x : Str} {pos : Pos} (hN : X.N[i]? = some x := by rfl) (hv : Vis X.env.scope x := by first | exact Or.inl rfl | exact Or.inr (Or.inl rfl) | exact Or.inr (Or.inr rfl)) (hd : (x == ("__debug__" : Str)) = false := by decide)
    (hcd : (x == ("__classdict__" : Str)) = false := by decide) : DE X K G (.Name x pos) (tVar i) (fVar i) := de_var (pe_var hN hv hd hcd)
def fC {G : Gh} (x : PyData) : Fe G := fun _ g => some (x, g)
theorem ad_c {K : PySem.W.Frag} {v : V} {x : PyData} (r : ∀ S, R K S v x) : Ad K G (tC v) (fC x) := fun σ H S ρ g d g' Q c hf q => by
  unfold fC at hf; cases hf
  exact q v S H (Stp.refl _ _ _) c (r S)
theorem de_int {i : Int} {j : Nat} : DE X K G (.Constant (.int i) j pos) (tC (.int i)) (fC (.int i)) := ⟨pe_int, ad_c fun _ => .int i⟩
theorem de_bl {i : Bool} {j : Nat} : DE X K G (.Constant (.bool i) j pos) (tC (.bl i)) (fC (.bool i)) := ⟨pe_bl, ad_c fun _ => .bl i⟩
theorem de_str {i : Str} {j : Nat} : DE X K G (.Constant (.str i) j pos) (tC (.str i)) (fC (.str i)) := ⟨pe_str, ad_c fun _ => .str i⟩
theorem de_non {j : Nat} : DE X K G (.Constant .none j pos) (tC .non) (fC .none) := ⟨pe_non, ad_c fun _ => .non⟩

/-- an operator by data -/
def AdR (K : PySem.W.Frag) (r : R2) (p : PyData → PyData → Option PyData) : Prop :=
  ∀ (S H : Hp) (x y : V) (dx dy d : PyData) (Q : VK), Same S H → R K S x dx → R K S y dy → p dx dy = some d → (∀ v S' H', Ext S H S' H' → R K S' v d → Q v H') → r x y H Q
def f2 {G : Gh} (p : PyData → PyData → Option PyData) (fa fb : Fe G) : Fe G := fun ρ g => mb (fa ρ g) fun x g => mb (fb ρ g) fun y g => mp (p x y) g
theorem ad_2 {K : PySem.W.Frag} {r : R2} {p : PyData → PyData → Option PyData} {fa fb : Fe G} (hp : AdR K r p) (ha : Ad K G ta fa) (hb : Ad K G tb fb) : Ad K G (tOp r ta tb) (f2 p fa fb) := fun σ H S ρ g d g' Q c hf q => by
  obtain ⟨x, g1, h1, hf⟩ := mb_inv hf
  obtain ⟨y, g2, h2, hf⟩ := mb_inv hf
  obtain ⟨h3, rfl⟩ := mp_inv hf
  refine ha σ H S ρ g x g1 _ c h1 fun v S1 H1 t1 c1 r1 => ?_
  refine hb σ H1 S1 ρ g1 y _ _ c1 h2 fun w S2 H2 t2 c2 r2 => ?_
  refine hp S2 H2 v w x y d Q c2.sh (r1.mono t2.s) r2 h3 fun z S3 H3 e r3 => ?_
  obtain ⟨t3, c3⟩ := c2.ext e
  exact q z S3 H3 (t1.trans (t2.trans t3)) c3 r3
theorem de_bin {op : Operator} {r : R2} {q : PyData → PyData → Option PyData} {fa fb : Fe G} (ho : OpR X (binaryOp op) r) (hp : AdR K r q) (ha : DE X K G a ta fa) (hb : DE X K G b tb fb) : DE X K G (.BinOp a op b pos) (tOp r ta tb) (f2 q fa fb) :=
  ⟨pe_op ho ha.pe hb.pe, ad_2 hp ha.ad hb.ad⟩
theorem de_cmp {op : CmpOp} {r : R2} {q : PyData → PyData → Option PyData} {fa fb : Fe G} (ho : OpR X (compareOp op) r) (hp : AdR K r q) (ha : DE X K G a ta fa) (hb : DE X K G b tb fb) (hm : behindInMarks op b = false) : DE X K G (.Compare a [op] [b] pos) (tOp r ta tb) (f2 q fa fb) :=
  ⟨pe_cmpR ho ha.pe hb.pe hm, ad_2 hp ha.ad hb.ad⟩
/-- a test by a value -/
def fB {G : Gh} (f : Fe G) : Ft G := fun ρ g => mb (f ρ g) fun x g => match x with
  | .bool k => some (k, g)
  | _ => none
theorem ad_tTest {K : PySem.W.Frag} {f : Fe G} (h : Ad K G te f) : AdT K G (tTest te) (fB f) := fun σ H S ρ g d g' Q c hf q => by
  obtain ⟨x, g1, h1, hf⟩ := mb_inv hf
  refine h σ H S ρ g x g1 _ c h1 fun v S1 H1 t1 c1 r1 => ?_
  cases x <;> first | (cases hf; done) | skip
  rename_i k
  cases hf
  cases r1
  exact ⟨_, rfl, q S1 H1 t1 c1⟩
theorem ad_tB {K : PySem.W.Frag} {f : Fe G} (h : Ad K G te f) : AdT K G (L2.tB te) (fB f) := ad_tTest h
theorem dt_cmp {op : CmpOp} {r : R2} {q : PyData → PyData → Option PyData} {fa fb : Fe G} (ho : OpR X (compareOp op) r) (hp : AdR K r q) (ha : DE X K G a ta fa) (hb : DE X K G b tb fb) (hm : behindInMarks op b = false) : DT X K G (.Compare a [op] [b] pos) (tTest (tOp r ta tb)) (fB (f2 q fa fb)) :=
  ⟨pt_cmpR ho ha.pe hb.pe hm, ad_tTest (ad_2 hp ha.ad hb.ad)⟩
theorem dt_val {f : Fe G} (h : DE X K G e te f) (he : ∀ whole, isTrue e X.env whole = (do let v ← whole; standAt e.pos; holding [v] (truthy v)) := by intro _; rfl) : DT X K G e (L2.tB te) (fB f) := ⟨pt_val h.pe he, ad_tB h.ad⟩
def fNot {G : Gh} (f : Ft G) : Ft G := fun ρ g => mb (f ρ g) fun x g => some (!x, g)
theorem dt_not {f : Ft G} (h : DT X K G a tA f) : DT X K G (.UnaryOp .Not a pos) (tNot tA) (fNot f) := ⟨pt_not h.pe, fun σ H S ρ g d g' Q c hf q => by
  obtain ⟨x, g1, h1, hf⟩ := mb_inv hf
  cases hf
  exact h.ad σ H S ρ g x _ _ c h1 fun S1 H1 t1 c1 => q S1 H1 t1 c1⟩
def fAnd {G : Gh} (f h : Ft G) : Ft G := fun ρ g => mb (f ρ g) fun x g => if x = true then h ρ g else some (false, g)
def fOr {G : Gh} (f h : Ft G) : Ft G := fun ρ g => mb (f ρ g) fun x g => if x = true then some (true, g) else h ρ g
theorem ad_and {K : PySem.W.Frag} {f h : Ft G} (hf : AdT K G tA f) (hh : AdT K G tB' h) : AdT K G (tAnd tA tB') (fAnd f h) := fun σ H S ρ g d g' Q c e q => by
  obtain ⟨x, g1, h1, e⟩ := mb_inv e
  refine hf σ H S ρ g x _ _ c h1 fun S1 H1 t1 c1 => ?_
  cases x with
  | true => exact iteT (hh σ H1 S1 ρ g1 d g' Q c1 e fun S2 H2 t2 c2 => q S2 H2 (t1.trans t2) c2)
  | false => cases e; exact iteF (q S1 H1 t1 c1)
theorem ad_or {K : PySem.W.Frag} {f h : Ft G} (hf : AdT K G tA f) (hh : AdT K G tB' h) : AdT K G (tOr tA tB') (fOr f h) := fun σ H S ρ g d g' Q c e q => by
  obtain ⟨x, g1, h1, e⟩ := mb_inv e
  refine hf σ H S ρ g x _ _ c h1 fun S1 H1 t1 c1 => ?_
  cases x with
  | false => exact iteF (hh σ H1 S1 ρ g1 d g' Q c1 e fun S2 H2 t2 c2 => q S2 H2 (t1.trans t2) c2)
  | true => cases e; exact iteT (q S1 H1 t1 c1)
theorem dw_and1 {f : Ft G} (h : DT X K G a tA f) : DW X K G (.BoolOp .And [a] pos) tA f := ⟨pw_and1 h.pe, h.ad⟩
theorem dw_or1 {f : Ft G} (h : DT X K G a tA f) : DW X K G (.BoolOp .Or [a] pos) tA f := ⟨pw_or1 h.pe, h.ad⟩
theorem dw_and {rest : List Expr} {f h : Ft G} (hf : DT X K G a tA f) (hh : DW X K G (.BoolOp .And (b :: rest) pos) tB' h) : DW X K G (.BoolOp .And (a :: b :: rest) pos) (tAnd tA tB') (fAnd f h) := ⟨pw_and hf.pe hh.pe, ad_and hf.ad hh.ad⟩
theorem dw_or {rest : List Expr} {f h : Ft G} (hf : DT X K G a tA f) (hh : DW X K G (.BoolOp .Or (b :: rest) pos) tB' h) : DW X K G (.BoolOp .Or (a :: b :: rest) pos) (tOr tA tB') (fOr f h) := ⟨pw_or hf.pe hh.pe, ad_or hf.ad hh.ad⟩
theorem DW.dt {f : Ft G} (h : DW X K G e tA f) : DT X K G e tA f := ⟨h.pe.pt, h.ad⟩
/-- and, or as values: all of them True or False (but the last one) -/
def fAndV {G : Gh} (f h : Fe G) : Fe G := fun ρ g => mb (fB f ρ g) fun x g => if x = true then h ρ g else some (.bool false, g)
def fOrV {G : Gh} (f h : Fe G) : Fe G := fun ρ g => mb (fB f ρ g) fun x g => if x = true then some (.bool true, g) else h ρ g
theorem de_one {op : BoolOp} {f : Fe G} (h : DE X K G a ta f) : DE X K G (.BoolOp op [a] pos) ta f := ⟨pe_one h.pe, h.ad⟩
theorem de_and {rest : List Expr} {f h : Fe G} (hf : DE X K G a ta f) (hh : DE X K G (.BoolOp .And (b :: rest) pos) tb h) : DE X K G (.BoolOp .And (a :: b :: rest) pos) (tAndV ta tb) (fAndV f h) := ⟨pe_and hf.pe hh.pe, fun σ H S ρ g d g' Q c e q => by
  obtain ⟨x, g1, h1, e⟩ := mb_inv e
  refine ad_tB hf.ad σ H S ρ g x _ (fun k H1 => if k = true then tb σ H1 Q else Q (.bl false) H1) c h1 fun S1 H1 t1 c1 => ?_
  cases x with
  | true => exact iteT (hh.ad σ H1 S1 ρ g1 d g' Q c1 e fun v S2 H2 t2 c2 r => q v S2 H2 (t1.trans t2) c2 r)
  | false => cases e; exact iteF (q _ S1 H1 t1 c1 (.bl false))⟩
theorem de_or {rest : List Expr} {f h : Fe G} (hf : DE X K G a ta f) (hh : DE X K G (.BoolOp .Or (b :: rest) pos) tb h) : DE X K G (.BoolOp .Or (a :: b :: rest) pos) (tOrV ta tb) (fOrV f h) := ⟨pe_or hf.pe hh.pe, fun σ H S ρ g d g' Q c e q => by
  obtain ⟨x, g1, h1, e⟩ := mb_inv e
  refine ad_tB hf.ad σ H S ρ g x _ (fun k H1 => if k = true then Q (.bl true) H1 else tb σ H1 Q) c h1 fun S1 H1 t1 c1 => ?_
  cases x with
  | false => exact iteF (hh.ad σ H1 S1 ρ g1 d g' Q c1 e fun v S2 H2 t2 c2 r => q v S2 H2 (t1.trans t2) c2 r)
  | true => cases e; exact iteT (q _ S1 H1 t1 c1 (.bl true))⟩
def fNotV {G : Gh} (f : Fe G) : Fe G := fun ρ g => mb (fB f ρ g) fun x g => some (.bool (!x), g)
theorem de_not {f : Fe G} (h : DE X K G a ta f) : DE X K G (.UnaryOp .Not a pos) (tNotV ta) (fNotV f) := ⟨pe_not h.pe, fun σ H S ρ g d g' Q c hf q => by
  obtain ⟨x, g1, h1, hf⟩ := mb_inv hf
  cases hf
  exact ad_tB h.ad σ H S ρ g x _ (fun k H1 => Q (.bl (!k)) H1) c h1 fun S1 H1 t1 c1 => q _ S1 H1 t1 c1 (.bl _)⟩
def fIf {G : Gh} (f : Ft G) (h k : Fe G) : Fe G := fun ρ g => mb (f ρ g) fun x g => if x = true then h ρ g else k ρ g
theorem de_if {f : Ft G} {h k : Fe G} (hf : DT X K G c tA f) (hh : DE X K G a ta h) (hk : DE X K G b tb k) : DE X K G (.IfExp c a b pos) (tIf tA ta tb) (fIf f h k) := ⟨pe_ifExp hf.pe hh.pe hk.pe, fun σ H S ρ g d g' Q c e q => by
  obtain ⟨x, g1, h1, e⟩ := mb_inv e
  refine hf.ad σ H S ρ g x _ _ c h1 fun S1 H1 t1 c1 => ?_
  cases x with
  | true => exact iteT (hh.ad σ H1 S1 ρ g1 d g' Q c1 e fun v S2 H2 t2 c2 r => q v S2 H2 (t1.trans t2) c2 r)
  | false => exact iteF (hk.ad σ H1 S1 ρ g1 d g' Q c1 e fun v S2 H2 t2 c2 r => q v S2 H2 (t1.trans t2) c2 r)⟩

/-! ### argument lists -/
def fNil {G : Gh} : Fa G := fun _ g => some ([], g)
def fCons {G : Gh} (f : Fe G) (h : Fa G) : Fa G := fun ρ g => mb (f ρ g) fun x g => mb (h ρ g) fun xs g => some (.d x :: xs, g)
def fConsR {G : Gh} (i : Nat) (h : Fa G) : Fa G := fun ρ g => match ρ[i]? with
  | some (.rf a) => mb (h ρ g) fun xs g => some (.rf a :: xs, g)
  | _ => none
theorem da_nil : DA X K G [] tNil fNil := ⟨pa_nil, fun σ H S ρ g d g' Q c hf q => by
  cases hf
  exact q [] S H (Stp.refl _ _ _) c .nil⟩
theorem da_cons {f : Fe G} {h : Fa G} (hf : DE X K G e te f) (hh : DA X K G es t h) (hs : starEach (e :: es) X.env = (false, eval e X.env) :: starEach es X.env := by rfl) : DA X K G (e :: es) (tCons te t) (fCons f h) := ⟨pa_cons hf.pe hh.pe hs, fun σ H S ρ g d g' Q c e q => by
  obtain ⟨x, g1, h1, e⟩ := mb_inv e
  obtain ⟨xs, g2, h2, e⟩ := mb_inv e
  cases e
  refine hf.ad σ H S ρ g x _ _ c h1 fun v S1 H1 t1 c1 r1 => ?_
  refine hh.ad σ H1 S1 ρ g1 xs _ _ c1 h2 fun vs S2 H2 t2 c2 r2 => ?_
  exact q (v :: vs) S2 H2 (t1.trans t2) c2 (.cons (.d (r1.mono t2.s)) r2)⟩
theorem da_consR (i : Nat) {x : Str} {pos : Pos} {h : Fa G} (hh : DA X K G es t h) (hN : X.N[i]? = some x := by rfl) (hv : Vis X.env.scope x := by first | exact Or.inl rfl | exact Or.inr (Or.inl rfl) | exact Or.inr (Or.inr rfl)) (hd : (x == ("__debug__" : Str)) = false := by decide)
    (hcd : (x == ("__classdict__" : Str)) = false := by decide) (hs : starEach (.Name x pos :: es) X.env = (false, eval (.Name x pos) X.env) :: starEach es X.env := by rfl) : DA X K G (.Name x pos :: es) (tCons (tVar i) t) (fConsR i h) := ⟨pa_cons (pe_var hN hv hd hcd) hh.pe hs, fun σ H S ρ g d g' Q c e q => by
  unfold fConsR at e
  split at e
  · rename_i a hx
    obtain ⟨xs, g2, h2, e⟩ := mb_inv e
    cases e
    obtain ⟨v, hv, r⟩ := c.env.2 i _ hx (fun z => nomatch z)
    cases r
    refine ⟨_, hv, hh.ad σ H S ρ g xs _ _ c h2 fun vs S2 H2 t2 c2 r2 => q _ S2 H2 t2 c2 (.cons (.rf a) r2)⟩
  · cases e⟩
def agD : List Ag → Option (List PyData)
  | [] => some []
  | .d x :: r => (agD r).map (x :: ·)
  | _ :: _ => none
theorem AsR.data {K : PySem.W.Frag} {S : Hp} : ∀ {vs : List V} {as : List Ag} {ds : List PyData} (_ : AsR K S vs as), agD as = some ds → RL K S vs ds
  | _, _, _, .nil, h => by cases h; exact .nil
  | _, _, _, .cons (.d r) q, h => by
    simp only [agD, Option.map_eq_some_iff] at h
    obtain ⟨ds', h, rfl⟩ := h
    exact .cons r (AsR.data q h)
  | _, _, _, .cons (.rf a) q, h => by cases h

/-! ### tuples, lists -/
def fTup {G : Gh} (f : Fa G) : Fe G := fun ρ g => mb (f ρ g) fun as g => match agD as with
  | some ds => if ds.length ≤ sizeLine then some (.tuple ds, g) else none
  | none => none
theorem de_tup {x1 : Nat} {f : Fa G} (h : DA X K G es t f) : DE X K G (.Tuple es x1 pos) (tTupF t) (fTup f) := ⟨pe_tupF h.pe, fun σ H S ρ g d g' Q c e q => by
  obtain ⟨as, g1, h1, e⟩ := mb_inv e
  refine h.ad σ H S ρ g as _ _ c h1 fun vs S1 H1 t1 c1 r1 => ?_
  split at e
  · rename_i ds hds
    split at e
    · rename_i hl
      cases e
      have rl := r1.data hds
      refine ⟨by rw [rl.length]; exact hl, fun p o hp ho => ?_⟩
      obtain ⟨t2, c2⟩ := c1.ext (.new (o := .frz o (.tup vs)) .refl hp)
      exact q _ _ _ (t1.trans t2) c2 (.tup (.inl ⟨o, upd_same, ho⟩) hl (rl.mono t2.s))
    · cases e
  · cases e⟩
def fLst {G : Gh} (f : Fa G) : En → G.T → Option (List PyData × G.T) := fun ρ g => mb (f ρ g) fun as g => match agD as with
  | some ds => if ds.length ≤ sizeLine then some (ds, g) else none
  | none => none
theorem dn_lst {f : Fa G} (h : DA X K G es t f) : DN X K G (.List es pos) (tLst t) (fLst f) := ⟨pe_lst h.pe, fun σ H S ρ g d g' Q c e q => by
  obtain ⟨as, g1, h1, e⟩ := mb_inv e
  refine h.ad σ H S ρ g as _ _ c h1 fun vs S1 H1 t1 c1 r1 => ?_
  split at e
  · rename_i ds hds
    split at e
    · rename_i hl
      cases e
      have rl := r1.data hds
      refine ⟨by rw [rl.length]; exact hl, fun p hp => ?_⟩
      obtain ⟨t2, c2⟩ := c1.ext (.junk (o := .lst vs) .refl hp)
      have ha : H p = none := by
        cases z : H p with
        | none => rfl
        | some o => exact absurd hp (t1.p p (by rw [z]; exact fun z => nomatch z))
      exact q p vs _ _ (t1.trans t2) c2 ha (c1.sh.free hp) upd_same rl hl
    · cases e
  · cases e⟩
/-- a new list as any other -/
def fN {G : Gh} (f : En → G.T → Option (List PyData × G.T)) : Fe G := fun ρ g => mb (f ρ g) fun ds g => some (.list ds, g)
/-- an address is taken among what stands -/
theorem Ctx.take {K : PySem.W.Frag} {S H S' H' : Hp} {σ : St} {ρ : En} {g' : G.T} {a : Addr} {o : HO} (t : Stp G S H S' H') (c : Ctx K G S' H' σ ρ g') (ha : H a = none) (hs : S' a = none) (ho : H' a = some o) (ng : ¬ G.dom a) :
    Stp G S H (upd S' a o) H' ∧ Ctx K G (upd S' a o) H' σ ρ g' := by
  have ne : ∀ b, H b ≠ none → b ≠ a := fun b h z => by subst z; exact h ha
  refine ⟨⟨t.s.trans (same_new hs), t.k, fun b h q => by rw [upd_ne (ne b h)]; exact t.n b h q, t.p⟩, fun b u q => ?_, c.env.mono (same_new hs), c.gok, fun b h => ?_, c.gh⟩
  · by_cases z : b = a
    · subst z; rw [upd_same] at q; rw [ho, ← q]
    · rw [upd_ne z] at q; exact c.sh b u q
  · rw [upd_ne (fun z => by subst z; exact ng h)]; exact c.gs b h
theorem DN.de {f : En → G.T → Option (List PyData × G.T)} (h : DN X K G e te f) : DE X K G e te (fN f) := ⟨h.pe, fun σ H S ρ g d g' Q c e q => by
  obtain ⟨ds, g1, h1, e⟩ := mb_inv e
  cases e
  refine h.ad σ H S ρ g ds _ _ c h1 fun a vs S1 H1 t1 c1 ha hs ho rl hl => ?_
  obtain ⟨t2, c2⟩ := Ctx.take t1 c1 ha hs ho (fun z => c.gh a z ha)
  exact q _ _ _ t2 c2 (.lst (.inl (.inl upd_same)) hl (rl.mono (same_new hs)))⟩

/-! ### calls of built-ins -/
def AdC (K : PySem.W.Frag) (r : List V → Hp → VK → Prop) (p : List PyData → Option PyData) : Prop :=
  ∀ (S H : Hp) (xs : List V) (ds : List PyData) (d : PyData) (Q : VK), Same S H → RL K S xs ds → p ds = some d → (∀ v S' H', Ext S H S' H' → R K S' v d → Q v H') → r xs H Q
def fB1 {G : Gh} (p : List PyData → Option PyData) (f : Fa G) : Fe G := fun ρ g => mb (f ρ g) fun as g => match agD as with
  | some ds => mp (p ds) g
  | none => none
theorem ad_cb {K : PySem.W.Frag} {r : List V → Hp → VK → Prop} {p : List PyData → Option PyData} {f : Fa G} (hr : AdC K r p) (h : AdA K G t f) : Ad K G (tCB r t) (fB1 p f) := fun σ H S ρ g d g' Q c e q => by
  obtain ⟨as, g1, h1, e⟩ := mb_inv e
  refine h σ H S ρ g as _ _ c h1 fun vs S1 H1 t1 c1 r1 => ?_
  split at e
  · rename_i ds hds
    obtain ⟨h3, rfl⟩ := mp_inv e
    refine hr S1 H1 vs ds d Q c1.sh (r1.data hds) h3 fun z S3 H3 e r3 => ?_
    obtain ⟨t3, c3⟩ := c1.ext e
    exact q z S3 H3 (t1.trans t3) c3 r3
  · cases e
theorem de_callB {id : String} {r : List V → Hp → VK → Prop} {q : List PyData → Option PyData} {f : Fa G} (hr : AdC K r q) (hc : CallR X (.builtin id) r) (hg : Gl X x) (hm : X.mg x = none) (hv : bootBuiltins x = some (.builtin id)) (ha : DA X K G (e :: es) t f) (hn : x ≠ "__name__" := by decide) (hdb : (x == ("__debug__" : Str)) = false := by decide)
    (he : starEach (e :: es) X.env = (false, eval e X.env) :: starEach es X.env := by rfl) (hpl : (backTo pos (starEach es X.env)).any (·.1) = false := by rfl) : DE X K G (.Call (.Name x p) (e :: es) [] pos) (tCB r t) (fB1 q f) :=
  ⟨pe_callB hc hg hm hv ha.pe hn hdb he hpl, ad_cb hr ha.ad⟩
theorem de_callTy {id : String} {r : List V → Hp → VK → Prop} {q : List PyData → Option PyData} {f : Fa G} (hr : AdC K r q) (hc : CallR X (.type id) r) (hg : Gl X x) (hm : X.mg x = none) (hv : bootBuiltins x = some (.type id)) (ha : DA X K G (e :: es) t f) (hn : x ≠ "__name__" := by decide) (hdb : (x == ("__debug__" : Str)) = false := by decide)
    (he : starEach (e :: es) X.env = (false, eval e X.env) :: starEach es X.env := by rfl) (hpl : (backTo pos (starEach es X.env)).any (·.1) = false := by rfl) : DE X K G (.Call (.Name x p) (e :: es) [] pos) (tCB r t) (fB1 q f) :=
  ⟨pe_callTy hc hg hm hv ha.pe hn hdb he hpl, ad_cb hr ha.ad⟩

/-! ### calls of defs -/
abbrev Fs (G : Gh) := List Ag → G.T → Option (PyData × G.T)
def GSp (K : PySem.W.Frag) (G : Gh) (sem : Fs G) : Sp := fun vs H Q _ => ∃ (S : Hp) (as : List Ag) (g : G.T) (d : PyData) (g' : G.T), Same S H ∧ AsR K S vs as ∧ G.ok g H ∧ (∀ a, G.dom a → S a = none) ∧ (∀ a, G.dom a → H a ≠ none) ∧ sem as g = some (d, g') ∧
  ∀ v S' H', Stp G S H S' H' → Same S' H' → G.ok g' H' → R K S' v d → Q v H'
def GSpN (K : PySem.W.Frag) (G : Gh) (sem : List Ag → G.T → Option (List PyData × G.T)) : Sp := fun vs H Q _ => ∃ (S : Hp) (as : List Ag) (g : G.T) (d : List PyData) (g' : G.T), Same S H ∧ AsR K S vs as ∧ G.ok g H ∧ (∀ a, G.dom a → S a = none) ∧ (∀ a, G.dom a → H a ≠ none) ∧ sem as g = some (d, g') ∧
  ∀ a ws S' H', Stp G S H S' H' → Same S' H' → G.ok g' H' → H a = none → S' a = none → H' a = some (.lst ws) → RL K S' ws d → d.length ≤ sizeLine → Q (.ref a) H'
def lift (sem : List Ag → Option PyData) : Fs G0 := fun as g => mp (sem as) g
def liftN (sem : List Ag → Option (List PyData)) : List Ag → G0.T → Option (List PyData × G0.T) := fun as g => mp (sem as) g
structure CallOk (P : Program) (w : World) (K : PySem.W.Frag) (mg : Str → Option Value) (base : Heap) (k : Nat) (x : Str) (sp : Sp) : Prop where
  ex : ∃ (f : Addr) (fd : FuncData) (ps : List Str), FnOk P w K mg base CX0 k f fd ps sp ∧ mg x = some (.ref f) ∧ PySem.W.keepIn K (.ref f) = true ∧ Binds K fd ps []
def fCall {G : Gh} (sem : Fs G) (f : Fa G) : Fe G := fun ρ g => mb (f ρ g) fun as g => sem as g
def fCallP {G : Gh} (sem : List Ag → Option PyData) (f : Fa G) : Fe G := fun ρ g => mb (f ρ g) fun as g => mp (sem as) g
def fCallN {G : Gh} (sem : List Ag → G.T → Option (List PyData × G.T)) (f : Fa G) : En → G.T → Option (List PyData × G.T) := fun ρ g => mb (f ρ g) fun as g => sem as g
def fCallPN {G : Gh} (sem : List Ag → Option (List PyData)) (f : Fa G) : En → G.T → Option (List PyData × G.T) := fun ρ g => mb (f ρ g) fun as g => mp (sem as) g
theorem stp0 {S H S' H' : Hp} (t : Stp G0 S H S' H') : Stp G S H S' H' := ⟨t.s, fun a o _ h => t.k a o (fun z => z) h, t.n, t.p⟩
theorem loc0 {S H S' H' : Hp} (t : Stp G0 S H S' H') (gh : ∀ a, G.dom a → H a ≠ none) (g : G.T) (h : G.ok g H) : G.ok g H' := by
  refine G.loc g H H' (fun a ha => ?_) h
  cases z : H a with
  | none => exact absurd z (gh a ha)
  | some o => exact t.k a o (fun z => z) z
theorem ad_call {K : PySem.W.Frag} {sem : Fs G} {f : Fa G} (h : AdA K G t f) : Ad K G (tCall (GSp K G sem) [] E0 t) (fCall sem f) := fun σ H S ρ g d g' Q c e q => by
  obtain ⟨as, g1, h1, e⟩ := mb_inv e
  refine h σ H S ρ g as _ _ c h1 fun vs S1 H1 t1 c1 r1 => ?_
  show GSp K G sem (vs ++ []) H1 Q E0
  rw [List.append_nil]
  exact ⟨S1, as, g1, d, g', c1.sh, r1, c1.gok, c1.gs, c1.gh, e, fun v S' H' t2 sh ok r => q v S' H' (t1.trans t2) (c1.step t2 sh ok) r⟩
theorem ad_callP {K : PySem.W.Frag} {sem : List Ag → Option PyData} {f : Fa G} (h : AdA K G t f) : Ad K G (tCall (GSp K G0 (lift sem)) [] E0 t) (fCallP sem f) := fun σ H S ρ g d g' Q c e q => by
  obtain ⟨as, g1, h1, e⟩ := mb_inv e
  obtain ⟨h3, rfl⟩ := mp_inv e
  refine h σ H S ρ g as _ _ c h1 fun vs S1 H1 t1 c1 r1 => ?_
  show GSp K G0 (lift sem) (vs ++ []) H1 Q E0
  rw [List.append_nil]
  exact ⟨S1, as, (), d, (), c1.sh, r1, trivial, fun _ z => z.elim, fun _ z => z.elim, by simp [lift, h3], fun v S' H' t2 sh ok r => q v S' H' (t1.trans (stp0 t2)) (c1.step (stp0 t2) sh (loc0 t2 c1.gh _ c1.gok)) r⟩
theorem ad_callN {K : PySem.W.Frag} {sem : List Ag → G.T → Option (List PyData × G.T)} {f : Fa G} (h : AdA K G t f) : AdN K G (tCall (GSpN K G sem) [] E0 t) (fCallN sem f) := fun σ H S ρ g d g' Q c e q => by
  obtain ⟨as, g1, h1, e⟩ := mb_inv e
  refine h σ H S ρ g as _ _ c h1 fun vs S1 H1 t1 c1 r1 => ?_
  show GSpN K G sem (vs ++ []) H1 Q E0
  rw [List.append_nil]
  refine ⟨S1, as, g1, d, g', c1.sh, r1, c1.gok, c1.gs, c1.gh, e, fun a ws S' H' t2 sh ok ha hs ho rl hl => q a ws S' H' (t1.trans t2) (c1.step t2 sh ok) ?_ hs ho rl hl⟩
  cases z : H a with
  | none => rfl
  | some o => exact absurd ha (t1.p a (by rw [z]; exact fun z => nomatch z))
theorem ad_callPN {K : PySem.W.Frag} {sem : List Ag → Option (List PyData)} {f : Fa G} (h : AdA K G t f) : AdN K G (tCall (GSpN K G0 (liftN sem)) [] E0 t) (fCallPN sem f) := fun σ H S ρ g d g' Q c e q => by
  obtain ⟨as, g1, h1, e⟩ := mb_inv e
  obtain ⟨h3, rfl⟩ := mp_inv e
  refine h σ H S ρ g as _ _ c h1 fun vs S1 H1 t1 c1 r1 => ?_
  show GSpN K G0 (liftN sem) (vs ++ []) H1 Q E0
  rw [List.append_nil]
  refine ⟨S1, as, (), d, (), c1.sh, r1, trivial, fun _ z => z.elim, fun _ z => z.elim, by simp [liftN, h3], fun a ws S' H' t2 sh ok ha hs ho rl hl => q a ws S' H' (t1.trans (stp0 t2)) (c1.step (stp0 t2) sh (loc0 t2 c1.gh _ c1.gok)) ?_ hs ho rl hl⟩
  cases z : H a with
  | none => rfl
  | some o => exact absurd ha (t1.p a (by rw [z]; exact fun z => nomatch z))
variable {k : Nat}
theorem de_call {sem : Fs G} {f : Fa G} (C : CallOk X.prog X.w K X.mg X.base k x (GSp K G sem)) (hr : Room k X.A) (hg : Gl X x) (ha : DA X K G (e :: es) t f) (hdb : (x == ("__debug__" : Str)) = false := by decide)
    (he : starEach (e :: es) X.env = (false, eval e X.env) :: starEach es X.env := by rfl) (hpl : (backTo pos (starEach es X.env)).any (·.1) = false := by rfl) (hK : X.K = K := by rfl) : DE X K G (.Call (.Name x p) (e :: es) [] pos) (tCall (GSp K G sem) [] E0 t) (fCall sem f) := by
  subst hK
  obtain ⟨g, fd, ps, F, hm, hk, hb⟩ := C.ex
  exact ⟨pe_call F hr hg hm hk hb .nil pass0 ha.pe hdb he hpl, ad_call ha.ad⟩
theorem de_callP {sem : List Ag → Option PyData} {f : Fa G} (C : CallOk X.prog X.w K X.mg X.base k x (GSp K G0 (lift sem))) (hr : Room k X.A) (hg : Gl X x) (ha : DA X K G (e :: es) t f) (hdb : (x == ("__debug__" : Str)) = false := by decide)
    (he : starEach (e :: es) X.env = (false, eval e X.env) :: starEach es X.env := by rfl) (hpl : (backTo pos (starEach es X.env)).any (·.1) = false := by rfl) (hK : X.K = K := by rfl) : DE X K G (.Call (.Name x p) (e :: es) [] pos) (tCall (GSp K G0 (lift sem)) [] E0 t) (fCallP sem f) := by
  subst hK
  obtain ⟨g, fd, ps, F, hm, hk, hb⟩ := C.ex
  exact ⟨pe_call F hr hg hm hk hb .nil pass0 ha.pe hdb he hpl, ad_callP ha.ad⟩
theorem dn_call {sem : List Ag → G.T → Option (List PyData × G.T)} {f : Fa G} (C : CallOk X.prog X.w K X.mg X.base k x (GSpN K G sem)) (hr : Room k X.A) (hg : Gl X x) (ha : DA X K G (e :: es) t f) (hdb : (x == ("__debug__" : Str)) = false := by decide)
    (he : starEach (e :: es) X.env = (false, eval e X.env) :: starEach es X.env := by rfl) (hpl : (backTo pos (starEach es X.env)).any (·.1) = false := by rfl) (hK : X.K = K := by rfl) : DN X K G (.Call (.Name x p) (e :: es) [] pos) (tCall (GSpN K G sem) [] E0 t) (fCallN sem f) := by
  subst hK
  obtain ⟨g, fd, ps, F, hm, hk, hb⟩ := C.ex
  exact ⟨pe_call F hr hg hm hk hb .nil pass0 ha.pe hdb he hpl, ad_callN ha.ad⟩
theorem dn_callP {sem : List Ag → Option (List PyData)} {f : Fa G} (C : CallOk X.prog X.w K X.mg X.base k x (GSpN K G0 (liftN sem))) (hr : Room k X.A) (hg : Gl X x) (ha : DA X K G (e :: es) t f) (hdb : (x == ("__debug__" : Str)) = false := by decide)
    (he : starEach (e :: es) X.env = (false, eval e X.env) :: starEach es X.env := by rfl) (hpl : (backTo pos (starEach es X.env)).any (·.1) = false := by rfl) (hK : X.K = K := by rfl) : DN X K G (.Call (.Name x p) (e :: es) [] pos) (tCall (GSpN K G0 (liftN sem)) [] E0 t) (fCallPN sem f) := by
  subst hK
  obtain ⟨g, fd, ps, F, hm, hk, hb⟩ := C.ex
  exact ⟨pe_call F hr hg hm hk hb .nil pass0 ha.pe hdb he hpl, ad_callPN ha.ad⟩
end
end DL

set_option Elab.async false
set_option linter.all false
set_option maxRecDepth 100000
set_option maxHeartbeats 4000000
namespace DL
open PySem PySem.Spec PyProof.Rows L2
open Classical

/-! ## targets -/
inductive Upd (K : PySem.W.Frag) (S : Hp) (is : List Nat) (σ : St) (ρ : En) : St → En → Prop
  | refl : Upd K S is σ ρ σ ρ
  | set {σ1 : St} {ρ1 : En} {i : Nat} {v : V} {d : PyData} : Upd K S is σ ρ σ1 ρ1 → i ∈ is → R K S v d → Upd K S is σ ρ (σ1.set i (some v)) (ρ1.set i (.d d))
theorem Upd.trans {K : PySem.W.Frag} {S : Hp} {is : List Nat} {σ σ1 σ2 : St} {ρ ρ1 ρ2 : En} (a : Upd K S is σ ρ σ1 ρ1) (b : Upd K S is σ1 ρ1 σ2 ρ2) : Upd K S is σ ρ σ2 ρ2 := by
  induction b with
  | refl => exact a
  | set _ m r ih => exact .set ih m r
theorem Upd.mono {K : PySem.W.Frag} {S S' : Hp} (e : Same S S') {is : List Nat} {σ σ1 : St} {ρ ρ1 : En} (a : Upd K S is σ ρ σ1 ρ1) : Upd K S' is σ ρ σ1 ρ1 := by
  induction a with
  | refl => exact .refl
  | set _ m r ih => exact .set ih m (r.mono e)
theorem set_get {α : Type} {l : List α} {i j : Nat} {x y : α} (h : (l.set i x)[j]? = some y) : (j = i ∧ i < l.length ∧ y = x) ∨ (j ≠ i ∧ l[j]? = some y) := by
  by_cases e : j = i
  · subst e
    have hl : j < l.length := by
      have := (List.getElem?_eq_some_iff.mp h).1
      simpa using this
    rw [List.getElem?_set_self hl] at h
    exact .inl ⟨rfl, hl, (Option.some.inj h).symm⟩
  · rw [List.getElem?_set_ne (Ne.symm e)] at h
    exact .inr ⟨e, h⟩
theorem EnvR.set {K : PySem.W.Frag} {S : Hp} {σ : St} {ρ : En} (h : EnvR K S σ ρ) (i : Nat) {v : V} {d : PyData} (r : R K S v d) : EnvR K S (σ.set i (some v)) (ρ.set i (.d d)) := by
  refine ⟨by simp [h.1], fun j x e n => ?_⟩
  rcases set_get e with ⟨rfl, hl, rfl⟩ | ⟨hj, e⟩
  · exact ⟨v, List.getElem?_set_self (by rw [h.1]; exact hl), .d r⟩
  · obtain ⟨u, a, b⟩ := h.2 j x e n
    exact ⟨u, by rw [List.getElem?_set_ne (Ne.symm hj)]; exact a, b⟩
theorem EnvR.upd {K : PySem.W.Frag} {S : Hp} {is : List Nat} {σ σ1 : St} {ρ ρ1 : En} (h : EnvR K S σ ρ) (u : Upd K S is σ ρ σ1 ρ1) : EnvR K S σ1 ρ1 := by
  induction u with
  | refl => exact h
  | set _ m r ih => exact ih.set _ r
theorem Ctx.sets {K : PySem.W.Frag} {G : Gh} {S H : Hp} {is : List Nat} {σ σ1 : St} {ρ ρ1 : En} {g : G.T} (c : Ctx K G S H σ ρ g) (u : Upd K S is σ ρ σ1 ρ1) : Ctx K G S H σ1 ρ1 g :=
  ⟨c.sh, c.env.upd u, c.gok, c.gs, c.gh⟩

def AdG (K : PySem.W.Frag) (is : List Nat) (t : TG) (bd : PyData → En → Option En) : Prop :=
  ∀ (S H : Hp) (v : V) (d : PyData) (σ : St) (ρ ρ' : En) (Q : St → Hp → Prop), Same S H → R K S v d → bd d ρ = some ρ' → (∀ σ', Upd K S is σ ρ σ' ρ' → Q σ' H) → t v σ H Q
def AdGs (K : PySem.W.Frag) (is : List Nat) (t : TGs) (bd : List PyData → En → Option En) : Prop :=
  ∀ (S H : Hp) (v : List V) (d : List PyData) (σ : St) (ρ ρ' : En) (Q : St → Hp → Prop), Same S H → RL K S v d → bd d ρ = some ρ' → (∀ σ', Upd K S is σ ρ σ' ρ' → Q σ' H) → t v σ H Q
structure DG (X : Cx) (K : PySem.W.Frag) (is : List Nat) (tg : Expr) (t : TG) (bd : PyData → En → Option En) : Prop where
  pe : PG X tg t
  ad : AdG K is t bd
structure DGs (X : Cx) (K : PySem.W.Frag) (is : List Nat) (tg : List Expr) (t : TGs) (bd : List PyData → En → Option En) : Prop where
  pe : PGs X tg t
  ad : AdGs K is t bd
def bName (i : Nat) : PyData → En → Option En := fun d ρ => some (ρ.set i (.d d))
def bNil : List PyData → En → Option En := fun ds ρ => match ds with
  | [] => some ρ
  | _ => none
def bCons (b : PyData → En → Option En) (c : List PyData → En → Option En) : List PyData → En → Option En := fun ds ρ => match ds with
  | d :: r => (b d ρ).bind (c r)
  | [] => none
def bTup (n : Nat) (c : List PyData → En → Option En) : PyData → En → Option En := fun d ρ => match d with
  | .tuple ds => if ds.length = n then c ds ρ else none
  | _ => none
section
variable {X : Cx} {K : PySem.W.Frag} {is : List Nat} {e : Expr} {es : List Expr}
theorem ad_gName {K : PySem.W.Frag} (i : Nat) (hi : i ∈ is) : AdG K is (gName i) (bName i) := fun S H v d σ ρ ρ' Q sh r h q => by
  cases h
  exact q _ (.set .refl hi r)
theorem dg_name (i : Nat) {x : Str} {pos : Pos} (hN : X.N.Nodup) (hi' : i ∈ is := by decide) (hi : X.N[i]? = some x := by rfl) (hx : Loc X.env.scope x := by first | exact .inl rfl | exact .inr rfl) (hf : X.fn x = true ∨ X.env.scope.names.lookup x = some .local := by first | exact .inl rfl | exact .inr rfl | assumption) : DG X K is (.Name x pos) (gName i) (bName i) :=
  ⟨pg_name hN hi hx hf, ad_gName i hi'⟩
theorem dgs_nil : DGs X K is [] gNil bNil := ⟨pgs_nil, fun S H v d σ ρ ρ' Q sh r h q => by
  cases r with
  | nil => cases h; exact ⟨rfl, q σ .refl⟩
  | cons a b => cases h⟩
theorem dgs_cons {t : TG} {u : TGs} {b : PyData → En → Option En} {c : List PyData → En → Option En} (h : DG X K is e t b) (k : DGs X K is es u c) (hs : List.map (fun x => x.snd) (assignEach (e :: es) X.env) = assign e X.env :: List.map (fun x => x.snd) (assignEach es X.env) := by rfl) : DGs X K is (e :: es) (gCons t u) (bCons b c) := ⟨pgs_cons h.pe k.pe hs, fun S H v d σ ρ ρ' Q sh r e q => by
  cases r with
  | nil => cases e
  | cons p rs =>
    simp only [bCons, Option.bind_eq_some_iff] at e
    obtain ⟨ρ1, e1, e2⟩ := e
    refine ⟨_, _, rfl, h.ad S H _ _ σ ρ ρ1 _ sh p e1 fun σ1 u1 => ?_⟩
    exact k.ad S H _ _ σ1 ρ1 ρ' _ sh rs e2 fun σ2 u2 => q σ2 (u1.trans u2)⟩
theorem dg_tup {k : Nat} {pos : Pos} {t : TGs} (n : Nat) {c : List PyData → En → Option En} (h : DGs X K is es t c) (hn : es.length = n := by rfl) (pgt : PGs X es t → PG X (.Tuple es k pos) (gTup K n t) := by exact fun h => pg_tup rfl h) (hK : X.K = K := by rfl) : DG X K is (.Tuple es k pos) (gTup K n t) (bTup n c) := by
  subst hK
  exact ⟨pgt h.pe, fun S H v d σ ρ ρ' Q sh r e q => by
  cases d <;> first | (cases e; done) | skip
  rename_i ds
  unfold bTup at e
  simp only at e
  split at e
  · rename_i hl
    cases r with
    | tup s l rl => exact ⟨_, _, rfl, (s.mono sh).T, by rw [rl.length]; exact hl, h.ad S H _ _ σ ρ ρ' Q sh rl e q⟩
  · cases e⟩
end

/-! ## ownership -/
def OwR (K : PySem.W.Frag) (S H : Hp) (a : Addr) : Ag → Prop
  | .d (.list ds) => ∃ vs, H a = some (.lst vs) ∧ RL K S vs ds ∧ ds.length ≤ sizeLine
  | .d (.dict ds) => ∃ kv, H a = some (.dK kv) ∧ RK K S kv ds
  | _ => False
def Owd (O : List Nat) (σ : St) (ρ : En) (b : Addr) : Prop := ∃ (i : Nat) (x : Ag), i ∈ O ∧ ρ[i]? = some x ∧ x ≠ .no ∧ σ[i]? = some (some (.ref b))
structure SCtx (K : PySem.W.Frag) (G : Gh) (S0 H0 : Hp) (O : List Nat) (S H : Hp) (σ : St) (ρ : En) (g : G.T) : Prop where
  st : Stp G S0 H0 S H
  sh : Same S H
  len : σ.length = ρ.length
  env : ∀ (i : Nat) (x : Ag), ρ[i]? = some x → i ∉ O → x ≠ .no → ∃ v, σ[i]? = some (some v) ∧ AgR K S v x
  own : ∀ (i : Nat) (x : Ag), ρ[i]? = some x → i ∈ O → x ≠ .no → ∃ a, σ[i]? = some (some (.ref a)) ∧ OwR K S H a x ∧ H0 a = none ∧ S a = none
  inj : ∀ (i j : Nat) (a : Addr) (x y : Ag), i ∈ O → j ∈ O → ρ[i]? = some x → x ≠ .no → ρ[j]? = some y → y ≠ .no → σ[i]? = some (some (.ref a)) → σ[j]? = some (some (.ref a)) → i = j
  gok : G.ok g H
  gs : ∀ a, G.dom a → S a = none
  gh : ∀ a, G.dom a → H a ≠ none
  gd : ∀ a, G.dom a → H0 a ≠ none
noncomputable def ovl (S H : Hp) (W : Addr → Prop) : Hp := fun b => if W b then H b else S b
noncomputable def rst (S : Hp) (W : Addr → Prop) : Hp := fun b => if W b then none else S b
theorem ovl_same {S H : Hp} {W : Addr → Prop} (h : ∀ b, W b → S b = none) : Same S (ovl S H W) := fun b o q => by
  unfold ovl
  rw [if_neg fun w => by rw [h b w] at q; cases q]
  exact q
theorem ovl_sh {S H : Hp} {W : Addr → Prop} (h : Same S H) : Same (ovl S H W) H := fun b o q => by
  unfold ovl at q
  split at q
  · exact q
  · exact h b o q
theorem rst_same {S : Hp} {W : Addr → Prop} : Same (rst S W) S := fun b o q => by
  unfold rst at q
  split at q
  · cases q
  · exact q
theorem OwR.mono {K : PySem.W.Frag} {S S' H H' : Hp} {a : Addr} {x : Ag} (e : Same S S') (h : H' a = H a) (o : OwR K S H a x) : OwR K S' H' a x := by
  match x, o with
  | .d (.list ds), ⟨vs, p, r, l⟩ => exact ⟨vs, by rw [h]; exact p, r.mono e, l⟩
  | .d (.dict ds), ⟨vs, p, r⟩ => exact ⟨vs, by rw [h]; exact p, r.mono e⟩
theorem OwR.r {K : PySem.W.Frag} {S S' H : Hp} {a : Addr} {x : Ag} (e : Same S S') (h : S' a = H a) (o : OwR K S H a x) : AgR K S' (.ref a) x := by
  match x, o with
  | .d (.list ds), ⟨vs, p, r, l⟩ => exact .d (.lst (.inl (.inl (by rw [h]; exact p))) l (r.mono e))
  | .d (.dict ds), ⟨vs, p, r⟩ => exact .d (.dct (by rw [h]; exact p) (r.mono e))
theorem OwR.there {K : PySem.W.Frag} {S H : Hp} {a : Addr} {x : Ag} (o : OwR K S H a x) : ∃ u, H a = some u ∧ (∀ xs, u ≠ .tup xs) ∧ ∀ b c, u ≠ .frz b c := by
  match x, o with
  | .d (.list ds), ⟨vs, p, r, l⟩ => exact ⟨_, p, (fun _ z => nomatch z), (fun _ _ z => nomatch z)⟩
  | .d (.dict ds), ⟨vs, p, r⟩ => exact ⟨_, p, (fun _ z => nomatch z), (fun _ _ z => nomatch z)⟩

section
variable {K : PySem.W.Frag} {G : Gh} {S0 H0 S H S1 H1 : Hp} {O : List Nat} {σ : St} {ρ : En} {g g' : G.T}
theorem SCtx.ow (c : SCtx K G S0 H0 O S H σ ρ g) {b : Addr} (w : Owd O σ ρ b) : ∃ x, OwR K S H b x ∧ H0 b = none ∧ S b = none ∧ ¬ G.dom b := by
  obtain ⟨i, x, hi, hx, hn, hs⟩ := w
  obtain ⟨a, h1, h2, h3, h4⟩ := c.own i x hx hi hn
  rw [hs] at h1
  cases h1
  exact ⟨x, h2, h3, h4, fun z => c.gd _ z h3⟩
/-- all seen as stable -/
theorem SCtx.frz (c : SCtx K G S0 H0 O S H σ ρ g) : Ctx K G (ovl S H (Owd O σ ρ)) H σ ρ g := by
  have hs : Same S (ovl S H (Owd O σ ρ)) := ovl_same fun b w => let ⟨_, _, _, h, _⟩ := c.ow w; h
  refine ⟨ovl_sh c.sh, ⟨c.len, fun i x hx hn => ?_⟩, c.gok, fun a h => ?_, c.gh⟩
  · by_cases hi : i ∈ O
    · obtain ⟨a, h1, h2, h3, h4⟩ := c.own i x hx hi hn
      refine ⟨_, h1, h2.r hs ?_⟩
      unfold ovl
      rw [if_pos ⟨i, x, hi, hx, hn, h1⟩]
    · obtain ⟨v, h1, h2⟩ := c.env i x hx hi hn
      exact ⟨v, h1, h2.mono hs⟩
  · unfold ovl
    rw [if_neg fun w => let ⟨_, _, _, _, q⟩ := c.ow w; q h]
    exact c.gs a h
/-- .. and back -/
theorem SCtx.back (c : SCtx K G S0 H0 O S H σ ρ g) (t : Stp G (ovl S H (Owd O σ ρ)) H S1 H1) (c1 : Ctx K G S1 H1 σ ρ g') :
    SCtx K G S0 H0 O (rst S1 (Owd O σ ρ)) H1 σ ρ g' ∧ Same S (rst S1 (Owd O σ ρ)) ∧ ∀ a xs, SqU K S1 a xs → SqU K (rst S1 (Owd O σ ρ)) a xs := by
  have hs : Same S (ovl S H (Owd O σ ρ)) := ovl_same fun b w => let ⟨_, _, _, h, _⟩ := c.ow w; h
  have sr : Same S (rst S1 (Owd O σ ρ)) := fun b o q => by
    unfold rst
    rw [if_neg fun w => by obtain ⟨_, _, _, h, _⟩ := c.ow w; rw [h] at q; cases q]
    exact t.s b o (hs b o q)
  have hk : ∀ b, Owd O σ ρ b → H1 b = H b := fun b w => by
    obtain ⟨x, o, _, _, nd⟩ := c.ow w
    obtain ⟨u, e, _⟩ := o.there
    rw [e]; exact t.k b u nd e
  refine ⟨⟨⟨c.st.s.trans sr, fun a o h q => t.k a o h (c.st.k a o h q), fun a h q => ?_, fun a h => t.p a (c.st.p a h)⟩, fun b o q => c1.sh b o (rst_same b o q), c.len, fun i x hx hi hn => ?_, fun i x hx hi hn => ?_, c.inj, c1.gok, fun a h => ?_, c1.gh, c.gd⟩, sr, fun a xs h => ?_⟩
  · by_cases w : Owd O σ ρ a
    · unfold rst; rw [if_pos w]
    · unfold rst; rw [if_neg w]
      refine t.n a (c.st.p a h) ?_
      unfold ovl; rw [if_neg w]
      exact c.st.n a h q
  · obtain ⟨v, h1, h2⟩ := c.env i x hx hi hn
    exact ⟨v, h1, h2.mono sr⟩
  · obtain ⟨a, h1, h2, h3, h4⟩ := c.own i x hx hi hn
    have w : Owd O σ ρ a := ⟨i, x, hi, hx, hn, h1⟩
    exact ⟨a, h1, h2.mono sr (hk a w), h3, by unfold rst; rw [if_pos w]⟩
  · unfold rst
    split
    · rfl
    · exact c1.gs a h
  · rcases h with ⟨o, h, hd⟩ | h
    · refine .inl ⟨o, ?_, hd⟩
      unfold rst
      rw [if_neg fun w => ?_]
      · exact h
      · obtain ⟨x, ow, _, _, nd⟩ := c.ow w
        obtain ⟨u, e, e1, e2⟩ := ow.there
        have : H1 a = some u := t.k a u nd e
        rw [c1.sh a _ h] at this
        cases this
        exact e2 _ _ rfl
    · exact .inr h
/-- the owned ones hidden -/
def hideAux (O : List Nat) : Nat → En → En
  | _, [] => []
  | i, x :: xs => (if O.contains i = true then .no else x) :: hideAux O (i + 1) xs
def hide (O : List Nat) (ρ : En) : En := hideAux O 0 ρ
theorem hideAux_get (O : List Nat) : ∀ (ρ : En) (k i : Nat), (hideAux O k ρ)[i]? = (ρ[i]?).map fun x => if O.contains (k + i) then .no else x
  | [], k, i => by simp [hideAux]
  | x :: xs, k, 0 => by simp [hideAux]
  | x :: xs, k, i + 1 => by
    have := hideAux_get O xs (k + 1) i
    simp only [hideAux, List.getElem?_cons_succ]
    rw [this]
    have e : k + 1 + i = k + (i + 1) := by omega
    rw [e]
theorem hide_get (O : List Nat) (ρ : En) (i : Nat) : (hide O ρ)[i]? = (ρ[i]?).map fun x => if O.contains i then .no else x := by
  unfold hide; rw [hideAux_get]; simp
theorem hideAux_len (O : List Nat) : ∀ (ρ : En) (k : Nat), (hideAux O k ρ).length = ρ.length
  | [], k => rfl
  | x :: xs, k => by simp [hideAux, hideAux_len O xs]
theorem SCtx.hid (c : SCtx K G S0 H0 O S H σ ρ g) : Ctx K G S H σ (hide O ρ) g := by
  refine ⟨c.sh, ⟨by unfold hide; rw [hideAux_len]; exact c.len, fun i x hx hn => ?_⟩, c.gok, c.gs, c.gh⟩
  rw [hide_get] at hx
  simp only [Option.map_eq_some_iff] at hx
  obtain ⟨y, hy, e⟩ := hx
  by_cases hi : i ∈ O
  · rw [if_pos (by simpa using hi)] at e
    exact absurd e.symm hn
  · rw [if_neg (by simpa using hi)] at e
    subst e
    exact c.env i _ hy hi hn
theorem SCtx.step (c : SCtx K G S0 H0 O S H σ ρ g) (t : Stp G S H S1 H1) (sh : Same S1 H1) (ok : G.ok g' H1) : SCtx K G S0 H0 O S1 H1 σ ρ g' := by
  refine ⟨c.st.trans t, sh, c.len, fun i x hx hi hn => ?_, fun i x hx hi hn => ?_, c.inj, ok, fun a h => t.n a (c.gh a h) (c.gs a h), fun a h => t.p a (c.gh a h), c.gd⟩
  · obtain ⟨v, h1, h2⟩ := c.env i x hx hi hn
    exact ⟨v, h1, h2.mono t.s⟩
  · obtain ⟨a, h1, h2, h3, h4⟩ := c.own i x hx hi hn
    have nd : ¬ G.dom a := fun z => c.gd _ z h3
    obtain ⟨u, e, _⟩ := h2.there
    exact ⟨a, h1, h2.mono t.s (by rw [e]; exact t.k a u nd e), h3, t.n a (by rw [e]; exact fun z => nomatch z) h4⟩
/-- fewer owned -/
theorem SCtx.drop {O2 : List Nat} (c : SCtx K G S0 H0 O S H σ ρ g) (h : ∀ i ∈ O2, i ∈ O) : ∃ S', SCtx K G S0 H0 O2 S' H σ ρ g ∧ Same S S' := by
  let W : Addr → Prop := fun b => ∃ (i : Nat) (x : Ag), i ∈ O ∧ i ∉ O2 ∧ ρ[i]? = some x ∧ x ≠ .no ∧ σ[i]? = some (some (.ref b))
  have hW : ∀ b, W b → Owd O σ ρ b := fun b ⟨i, x, a, _, b, c, d⟩ => ⟨i, x, a, b, c, d⟩
  have hs : Same S (ovl S H W) := ovl_same fun b w => let ⟨_, _, _, h, _⟩ := c.ow (hW b w); h
  refine ⟨ovl S H W, ⟨⟨c.st.s.trans hs, c.st.k, fun a h q => ?_, c.st.p⟩, ovl_sh c.sh, c.len, fun i x hx hi hn => ?_, fun i x hx hi hn => ?_, fun i j a x y hi hj => c.inj i j a x y (h i hi) (h j hj), c.gok, fun a h => ?_, c.gh, c.gd⟩, hs⟩
  · unfold ovl
    rw [if_neg fun w => let ⟨_, _, e, _⟩ := c.ow (hW a w); h e]
    exact c.st.n a h q
  · by_cases hO : i ∈ O
    · obtain ⟨a, h1, h2, h3, h4⟩ := c.own i x hx hO hn
      refine ⟨_, h1, h2.r hs ?_⟩
      unfold ovl
      rw [if_pos ⟨i, x, hO, hi, hx, hn, h1⟩]
    · obtain ⟨v, h1, h2⟩ := c.env i x hx hO hn
      exact ⟨v, h1, h2.mono hs⟩
  · obtain ⟨a, h1, h2, h3, h4⟩ := c.own i x hx (h i hi) hn
    refine ⟨a, h1, h2.mono hs rfl, h3, ?_⟩
    unfold ovl
    rw [if_neg fun w => ?_]
    · exact h4
    · obtain ⟨j, y, hj, hj2, hy, hm, hs⟩ := w
      have := c.inj i j a x y (h i hi) hj hx hn hy hm h1 hs
      subst this
      exact hj2 hi
  · unfold ovl
    rw [if_neg fun w => let ⟨_, _, _, _, q⟩ := c.ow (hW a w); q h]
    exact c.gs a h
theorem SCtx.sets {is : List Nat} {σ1 : St} {ρ1 : En} (c : SCtx K G S0 H0 O S H σ ρ g) (hi : ∀ i ∈ is, i ∉ O) (u : Upd K S is σ ρ σ1 ρ1) : SCtx K G S0 H0 O S H σ1 ρ1 g := by
  induction u with
  | refl => exact c
  | @set σ1 ρ1 i v d _ m r ih =>
    refine ⟨ih.st, ih.sh, by simp [ih.len], fun j x hx hj hn => ?_, fun j x hx hj hn => ?_, fun j k a x y hj hk hx hxn hy hyn h1 h2 => ?_, ih.gok, ih.gs, ih.gh, ih.gd⟩
    · rcases set_get hx with ⟨rfl, hl, rfl⟩ | ⟨e, hx⟩
      · exact ⟨v, List.getElem?_set_self (by rw [ih.len]; exact hl), .d r⟩
      · obtain ⟨w, a, b⟩ := ih.env j x hx hj hn
        exact ⟨w, by rw [List.getElem?_set_ne (Ne.symm e)]; exact a, b⟩
    · rcases set_get hx with ⟨rfl, hl, rfl⟩ | ⟨e, hx⟩
      · exact absurd hj (hi _ m)
      · obtain ⟨a, h1, h2⟩ := ih.own j x hx hj hn
        exact ⟨a, by rw [List.getElem?_set_ne (Ne.symm e)]; exact h1, h2⟩
    · have ej : j ≠ i := fun z => hi _ m (z ▸ hj)
      have ek : k ≠ i := fun z => hi _ m (z ▸ hk)
      rw [List.getElem?_set_ne (Ne.symm ej)] at hx h1
      rw [List.getElem?_set_ne (Ne.symm ek)] at hy h2
      exact ih.inj j k a x y hj hk hx hxn hy hyn h1 h2
/-- a slot takes an owned new object -/
theorem SCtx.take {i : Nat} {a : Addr} {x : Ag} {O2 : List Nat} (c : SCtx K G S0 H0 O S H σ ρ g) (ho : OwR K S H a x) (h0 : H0 a = none) (hs : S a = none) (hw : ¬ Owd O σ ρ a) (hO : ∀ j ∈ O2, j = i ∨ j ∈ O) (hO2 : ∀ j ∈ O, j ∈ O2) (hi : i ∈ O2) : SCtx K G S0 H0 O2 S H (σ.set i (some (.ref a))) (ρ.set i x) g := by
  refine ⟨c.st, c.sh, by simp [c.len], fun j y hy hj hn => ?_, fun j y hy hj hn => ?_, fun j k b y z hj hk hy hyn hz hzn h1 h2 => ?_, c.gok, c.gs, c.gh, c.gd⟩
  · rcases set_get hy with ⟨rfl, hl, rfl⟩ | ⟨e, hy⟩
    · exact absurd hi hj
    · obtain ⟨w, p, q⟩ := c.env j y hy (fun z => hj (hO2 j z)) hn
      exact ⟨w, by rw [List.getElem?_set_ne (Ne.symm e)]; exact p, q⟩
  · rcases set_get hy with ⟨rfl, hl, rfl⟩ | ⟨e, hy⟩
    · exact ⟨a, List.getElem?_set_self (by rw [c.len]; exact hl), ho, h0, hs⟩
    · obtain ⟨w, p, q⟩ := c.own j y hy ((hO j hj).resolve_left e) hn
      exact ⟨w, by rw [List.getElem?_set_ne (Ne.symm e)]; exact p, q⟩
  · rcases set_get hy with ⟨ej, hl, ey⟩ | ⟨ej, hy2⟩
    · rcases set_get hz with ⟨ek, hl', ez⟩ | ⟨ek, hz2⟩
      · rw [ej, ek]
      · rw [ej, List.getElem?_set_self (by rw [c.len]; exact hl)] at h1
        rw [List.getElem?_set_ne (Ne.symm ek)] at h2
        cases h1
        exact absurd ⟨k, z, (hO k hk).resolve_left ek, hz2, hzn, h2⟩ hw
    · rcases set_get hz with ⟨ek, hl', ez⟩ | ⟨ek, hz2⟩
      · rw [ek, List.getElem?_set_self (by rw [c.len]; exact hl')] at h2
        rw [List.getElem?_set_ne (Ne.symm ej)] at h1
        cases h2
        exact absurd ⟨j, y, (hO j hj).resolve_left ej, hy2, hyn, h1⟩ hw
      · rw [List.getElem?_set_ne (Ne.symm ej)] at h1
        rw [List.getElem?_set_ne (Ne.symm ek)] at h2
        exact c.inj j k b y z ((hO j hj).resolve_left ej) ((hO k hk).resolve_left ek) hy2 hyn hz2 hzn h1 h2
/-- an owned object changes -/
theorem SCtx.put {i : Nat} {a : Addr} {x y : Ag} {o : HO} (c : SCtx K G S0 H0 O S H σ ρ g) (hi : i ∈ O) (hx : ρ[i]? = some x) (hn : x ≠ .no) (hs : σ[i]? = some (some (.ref a))) (ho : OwR K S (upd H a o) a y) : SCtx K G S0 H0 O S (upd H a o) σ (ρ.set i y) g := by
  have w : Owd O σ ρ a := ⟨i, x, hi, hx, hn, hs⟩
  obtain ⟨x', ow, h0, sn, nd⟩ := c.ow w
  have ha : H a ≠ none := let ⟨u, e, _⟩ := ow.there; by rw [e]; exact fun z => nomatch z
  refine ⟨⟨c.st.s, fun b u h q => ?_, c.st.n, fun b h => ?_⟩, fun b u q => ?_, by simp [c.len], fun j y hy hj hn' => ?_, fun j z hz hj hn' => ?_, fun j k b y' z hj hk hy hyn hz hzn h1 h2 => ?_, G.loc _ _ _ (fun b hb => upd_ne fun z => by subst z; exact nd hb) c.gok, c.gs, fun b hb => ?_, c.gd⟩
  · rw [upd_ne fun z => by subst z; rw [h0] at q; cases q]
    exact c.st.k b u h q
  · by_cases z : b = a
    · subst z; rw [upd_same]; exact fun z => nomatch z
    · rw [upd_ne z]; exact c.st.p b h
  · rw [upd_ne fun z => by subst z; rw [sn] at q; cases q]
    exact c.sh b u q
  · rcases set_get hy with ⟨rfl, hl, rfl⟩ | ⟨e, hy⟩
    · exact absurd hi hj
    · exact c.env j y hy hj hn'
  · rcases set_get hz with ⟨rfl, hl, rfl⟩ | ⟨e, hz⟩
    · exact ⟨a, hs, ho, h0, sn⟩
    · obtain ⟨b, h1, h2, h3, h4⟩ := c.own j z hz hj hn'
      refine ⟨b, h1, h2.mono (Same.refl _) (upd_ne fun q => ?_), h3, h4⟩
      subst q
      exact e (c.inj j i _ z x hj hi hz hn' hx hn h1 hs)
  · have f : ∀ (m : Nat) (q : Ag), m ∈ O → (ρ.set i y)[m]? = some q → q ≠ .no → ∃ q', ρ[m]? = some q' ∧ q' ≠ .no := fun m q hm hq hqn => by
      rcases set_get hq with ⟨rfl, hl, rfl⟩ | ⟨e, hq⟩
      · exact ⟨x, hx, hn⟩
      · exact ⟨q, hq, hqn⟩
    obtain ⟨p1, a1, b1⟩ := f j y' hj hy hyn
    obtain ⟨p2, a2, b2⟩ := f k z hk hz hzn
    exact c.inj j k b p1 p2 hj hk a1 b1 a2 b2 h1 h2
  · by_cases z : b = a
    · subst z; rw [upd_same]; exact fun z => nomatch z
    · rw [upd_ne z]; exact c.gh b hb

/-! ### expressions within statements -/
variable {te : TE} {tt : TT} {ta : TA}
theorem SCtx.eval {f : Fe G} {d : PyData} {Q : VK} (c : SCtx K G S0 H0 O S H σ ρ g) (h : Ad K G te f) (e : f ρ g = some (d, g')) (q : ∀ v S' H', SCtx K G S0 H0 O S' H' σ ρ g' → Same S S' → (imm d = true → R K S' v d) → Q v H') : te σ H Q := by
  refine h σ H _ ρ g d g' Q c.frz e fun v S1 H1 t c1 r => ?_
  obtain ⟨c2, s2, i2⟩ := c.back t c1
  exact q v _ H1 c2 s2 fun hi => r.imm_to i2 hi
theorem SCtx.evalH {f : Fe G} {d : PyData} {Q : VK} (c : SCtx K G S0 H0 O S H σ ρ g) (h : Ad K G te f) (e : f (hide O ρ) g = some (d, g')) (q : ∀ v S' H', SCtx K G S0 H0 O S' H' σ ρ g' → Same S S' → R K S' v d → Q v H') : te σ H Q := by
  refine h σ H _ (hide O ρ) g d g' Q c.hid e fun v S1 H1 t c1 r => ?_
  exact q v S1 H1 (c.step t c1.sh c1.gok) t.s r
theorem SCtx.evalT {f : Ft G} {d : Bool} {Q : Bool → Hp → Prop} (c : SCtx K G S0 H0 O S H σ ρ g) (h : AdT K G tt f) (e : f ρ g = some (d, g')) (q : ∀ S' H', SCtx K G S0 H0 O S' H' σ ρ g' → Same S S' → Q d H') : tt σ H Q := by
  refine h σ H _ ρ g d g' Q c.frz e fun S1 H1 t c1 => ?_
  obtain ⟨c2, s2, i2⟩ := c.back t c1
  exact q _ H1 c2 s2
/-- the value that leaves the def -/
theorem SCtx.evalR {f : Fe G} {d : PyData} {Q : VK} (c : SCtx K G S0 H0 O S H σ ρ g) (h : Ad K G te f) (e : f ρ g = some (d, g')) (q : ∀ v S' H', Stp G S0 H0 S' H' → Same S' H' → G.ok g' H' → R K S' v d → Q v H') : te σ H Q := by
  refine h σ H _ ρ g d g' Q c.frz e fun v S1 H1 t c1 r => ?_
  have hs : Same S (ovl S H (Owd O σ ρ)) := ovl_same fun b w => let ⟨_, _, _, h, _⟩ := c.ow w; h
  have t0 : Stp G S0 H0 (ovl S H (Owd O σ ρ)) H := ⟨c.st.s.trans hs, c.st.k, fun a h q => by
    unfold ovl
    rw [if_neg fun w => let ⟨_, _, e, _⟩ := c.ow w; h e]
    exact c.st.n a h q, c.st.p⟩
  exact q v S1 H1 (t0.trans t) c1.sh c1.gok r
theorem SCtx.evalN {f : En → G.T → Option (List PyData × G.T)} {d : List PyData} {Q : VK} (c : SCtx K G S0 H0 O S H σ ρ g) (h : AdN K G te f) (e : f ρ g = some (d, g')) (hi : immL d = true)
    (q : ∀ a vs S' H', SCtx K G S0 H0 O S' H' σ ρ g' → Same S S' → H0 a = none → S' a = none → ¬ Owd O σ ρ a → H' a = some (.lst vs) → RL K S' vs d → d.length ≤ sizeLine → Q (.ref a) H') : te σ H Q := by
  refine h σ H _ ρ g d g' Q c.frz e fun a vs S1 H1 t c1 ha hs ho rl hl => ?_
  obtain ⟨c2, s2, i2⟩ := c.back t c1
  refine q a vs _ H1 c2 s2 ?_ (by unfold rst; split <;> first | rfl | exact hs) (fun w => ?_) ho (rl.imm_to i2 hi) hl
  · cases z : H0 a with
    | none => rfl
    | some o => exact absurd ha (c.st.p a (by rw [z]; exact fun z => nomatch z))
  · obtain ⟨x, ow, _, _, _⟩ := c.ow w
    obtain ⟨u, e, _⟩ := ow.there
    rw [ha] at e; cases e
theorem SCtx.evalNH {f : En → G.T → Option (List PyData × G.T)} {d : List PyData} {Q : VK} (c : SCtx K G S0 H0 O S H σ ρ g) (h : AdN K G te f) (e : f (hide O ρ) g = some (d, g'))
    (q : ∀ a vs S' H', SCtx K G S0 H0 O S' H' σ ρ g' → Same S S' → H0 a = none → S' a = none → ¬ Owd O σ ρ a → H' a = some (.lst vs) → RL K S' vs d → d.length ≤ sizeLine → Q (.ref a) H') : te σ H Q := by
  refine h σ H _ (hide O ρ) g d g' Q c.hid e fun a vs S1 H1 t c1 ha hs ho rl hl => ?_
  refine q a vs S1 H1 (c.step t c1.sh c1.gok) t.s ?_ hs (fun w => ?_) ho rl hl
  · cases z : H0 a with
    | none => rfl
    | some o => exact absurd ha (c.st.p a (by rw [z]; exact fun z => nomatch z))
  · obtain ⟨x, ow, _, _, _⟩ := c.ow w
    obtain ⟨u, e, _⟩ := ow.there
    rw [ha] at e; cases e
end

/-! ## statements -/
inductive Out (T : Type) | nx (ρ : En) (g : T) | rt (d : PyData) (g : T) | bk (ρ : En) (g : T) | ct (ρ : En) (g : T)
abbrev Fst (G : Gh) := En → G.T → Option (Out G.T)
/-- what is wanted behind; nw: a new list is handed back -/
def Ful (K : PySem.W.Frag) (G : Gh) (nw : Bool) (S0 H0 : Hp) (O Ol : List Nat) (S : Hp) (D : Ends) : Out G.T → Prop
  | .nx ρ' g' => ∀ σ' S' H', SCtx K G S0 H0 O S' H' σ' ρ' g' → Same S S' → D.nx σ' H'
  | .bk ρ' g' => ∀ σ' S' H', SCtx K G S0 H0 Ol S' H' σ' ρ' g' → Same S S' → D.bk σ' H'
  | .ct ρ' g' => ∀ σ' S' H', SCtx K G S0 H0 Ol S' H' σ' ρ' g' → Same S S' → D.ct σ' H'
  | .rt d g' => if nw = true then ∀ ds, d = .list ds → ∀ a vs S' H', Stp G S0 H0 S' H' → Same S' H' → G.ok g' H' → H0 a = none → S' a = none → H' a = some (.lst vs) → RL K S' vs ds → ds.length ≤ sizeLine → D.rt (.ref a) H'
      else ∀ v S' H', Stp G S0 H0 S' H' → Same S' H' → G.ok g' H' → R K S' v d → D.rt v H'
def AdS (K : PySem.W.Frag) (G : Gh) (nw : Bool) (O O' Ol : List Nat) (t : TS) (F : Fst G) : Prop :=
  ∀ (S0 H0 : Hp) (σ : St) (H S : Hp) (ρ : En) (g : G.T) (out : Out G.T) (D : Ends), SCtx K G S0 H0 O S H σ ρ g → F ρ g = some out → Ful K G nw S0 H0 O' Ol S D out → t D σ H
structure DS (X : Cx) (K : PySem.W.Frag) (G : Gh) (nw : Bool) (O O' Ol : List Nat) (st : Stmt) (t : TS) (F : Fst G) : Prop where
  pe : PS X st t
  ad : AdS K G nw O O' Ol t F
structure DSs (X : Cx) (K : PySem.W.Frag) (G : Gh) (nw : Bool) (O O' Ol : List Nat) (st : List Stmt) (t : TS) (F : Fst G) : Prop where
  pe : PSs X st t
  ad : AdS K G nw O O' Ol t F
def subO (a b : List Nat) : Bool := a.all fun i => b.contains i
theorem subO_mem {a b : List Nat} (h : subO a b = true) : ∀ i ∈ a, i ∈ b := fun i hi => by
  have := List.all_eq_true.mp h i hi
  simpa using this
theorem Ful.same {K : PySem.W.Frag} {G : Gh} {nw : Bool} {S0 H0 : Hp} {O Ol : List Nat} {S S' : Hp} {D : Ends} {out : Out G.T} (s : Same S S') (h : Ful K G nw S0 H0 O Ol S D out) : Ful K G nw S0 H0 O Ol S' D out := by
  cases out with
  | nx ρ' g' => exact fun σ' S2 H' c e => h σ' S2 H' c (s.trans e)
  | bk ρ' g' => exact fun σ' S2 H' c e => h σ' S2 H' c (s.trans e)
  | ct ρ' g' => exact fun σ' S2 H' c e => h σ' S2 H' c (s.trans e)
  | rt d g' => exact h
section
variable {X : Cx} {K : PySem.W.Frag} {G : Gh} {nw : Bool} {O O1 O' Ol is : List Nat} {st : Stmt} {sts : List Stmt} {t u : TS} {F F' : Fst G} {a b c e : Expr} {te : TE} {pos : Pos}
/-- ownership is given up ahead, behind -/
theorem AdS.pre {K : PySem.W.Frag} (h : AdS K G nw O1 O' Ol t F) (hs : subO O1 O = true) : AdS K G nw O O' Ol t F := fun S0 H0 σ H S ρ g out D c e q => by
  obtain ⟨S', c', s⟩ := c.drop (subO_mem hs)
  exact h S0 H0 σ H S' ρ g out D c' e (q.same s)
theorem AdS.post {K : PySem.W.Frag} (h : AdS K G nw O O1 Ol t F) (hs : subO O' O1 = true) : AdS K G nw O O' Ol t F := fun S0 H0 σ H S ρ g out D c e q => by
  refine h S0 H0 σ H S ρ g out D c e ?_
  cases out with
  | nx ρ' g' => exact fun σ' S2 H' c e => let ⟨S3, c3, s3⟩ := c.drop (subO_mem hs); q σ' S3 H' c3 (e.trans s3)
  | bk ρ' g' => exact q
  | ct ρ' g' => exact q
  | rt d g' => exact q
theorem DSs.pre (h : DSs X K G nw O1 O' Ol sts t F) (hs : subO O1 O = true) : DSs X K G nw O O' Ol sts t F := ⟨h.pe, h.ad.pre hs⟩
theorem DSs.post (h : DSs X K G nw O O1 Ol sts t F) (hs : subO O' O1 = true) : DSs X K G nw O O' Ol sts t F := ⟨h.pe, h.ad.post hs⟩
theorem DS.pre (h : DS X K G nw O1 O' Ol st t F) (hs : subO O1 O = true) : DS X K G nw O O' Ol st t F := ⟨h.pe, h.ad.pre hs⟩
theorem DS.post (h : DS X K G nw O O1 Ol st t F) (hs : subO O' O1 = true) : DS X K G nw O O' Ol st t F := ⟨h.pe, h.ad.post hs⟩
def sSkip : Fst G := fun ρ g => some (.nx ρ g)
def sSeq (F F' : Fst G) : Fst G := fun ρ g => match F ρ g with
  | some (.nx ρ' g') => F' ρ' g'
  | o => o
theorem ad_skip {K : PySem.W.Frag} : AdS K G nw O O Ol tNext (sSkip (G := G)) := fun S0 H0 σ H S ρ g out D c e q => by
  cases e
  exact q σ S H c (Same.refl _)
theorem dss_nil : DSs X K G nw O O Ol [] tNext sSkip := ⟨pss_nil, ad_skip⟩
theorem ds_pass : DS X K G nw O O Ol (.Pass pos) tNext sSkip := ⟨ps_pass, ad_skip⟩
theorem dss_cons (h : DS X K G nw O O1 Ol st t F) (k : DSs X K G nw O1 O' Ol sts u F') : DSs X K G nw O O' Ol (st :: sts) (tSeq t u) (sSeq F F') := ⟨pss_cons h.pe k.pe, fun S0 H0 σ H S ρ g out D c e q => by
  unfold sSeq at e
  split at e
  · rename_i ρ' g' hF
    refine h.ad S0 H0 σ H S ρ g _ { D with nx := u D } c hF fun σ' S' H' c' s => ?_
    exact k.ad S0 H0 σ' H' S' ρ' g' out D c' e (q.same s)
  · rename_i hn
    refine h.ad S0 H0 σ H S ρ g out { D with nx := u D } c e ?_
    cases out with
    | nx ρ' g' => exact absurd e (hn ρ' g')
    | bk ρ' g' => exact q
    | ct ρ' g' => exact q
    | rt d g' => exact q⟩
theorem dss_one (h : DS X K G nw O O' Ol st t F) : DSs X K G nw O O' Ol [st] t F := ⟨pss_one h.pe, h.ad⟩
/-- x = e, e stable -/
def sSet (i : Nat) (f : Fe G) : Fst G := fun ρ g => match f ρ g with
  | some (d, g') => if imm d = true then some (.nx (ρ.set i (.d d)) g') else none
  | none => none
def sSetH (O : List Nat) (i : Nat) (f : Fe G) : Fst G := fun ρ g => match f (hide O ρ) g with
  | some (d, g') => some (.nx (ρ.set i (.d d)) g')
  | none => none
theorem ad_set {K : PySem.W.Frag} {i : Nat} {f : Fe G} (h : Ad K G te f) (hi : O.contains i = false) : AdS K G nw O O Ol (tAsg te (gName i)) (sSet i f) := fun S0 H0 σ H S ρ g out D c e q => by
  unfold sSet at e
  split at e
  · rename_i d g' hf
    split at e
    · rename_i him
      cases e
      refine c.eval h hf fun v S' H' c' s r => ?_
      refine q _ S' H' (c'.sets (is := [i]) (fun j hj => by simp at hj; subst hj; simpa using hi) (.set .refl (by simp) (r him))) s
    · cases e
  · cases e
theorem ad_setH {K : PySem.W.Frag} {i : Nat} {f : Fe G} (h : Ad K G te f) (hi : O.contains i = false) : AdS K G nw O O Ol (tAsg te (gName i)) (sSetH O i f) := fun S0 H0 σ H S ρ g out D c e q => by
  unfold sSetH at e
  split at e
  · rename_i d g' hf
    cases e
    refine c.evalH h hf fun v S' H' c' s r => ?_
    refine q _ S' H' (c'.sets (is := [i]) (fun j hj => by simp at hj; subst hj; simpa using hi) (.set .refl (by simp) r)) s
  · cases e
theorem ds_set (i : Nat) {x : Str} {pos' : Pos} {f : Fe G} (hN : X.N.Nodup) (h : DE X K G e te f) (hi : X.N[i]? = some x := by rfl) (hx : Loc X.env.scope x := by first | exact .inl rfl | exact .inr rfl) (hO : O.contains i = false := by rfl) (hs : swapsWith e (some (.Name x pos')) pos.line X.env = pure false := by rfl)
    (hf : X.fn x = true ∨ X.env.scope.names.lookup x = some .local := by first | exact .inl rfl | exact .inr rfl | assumption) : DS X K G nw O O Ol (.Assign [.Name x pos'] e pos) (tAsg te (gName i)) (sSet i f) := ⟨ps_set hN hi hx h.pe hs hf, ad_set h.ad hO⟩
theorem ds_setH (i : Nat) {x : Str} {pos' : Pos} {f : Fe G} (hN : X.N.Nodup) (h : DE X K G e te f) (hi : X.N[i]? = some x := by rfl) (hx : Loc X.env.scope x := by first | exact .inl rfl | exact .inr rfl) (hO : O.contains i = false := by rfl) (hs : swapsWith e (some (.Name x pos')) pos.line X.env = pure false := by rfl)
    (hf : X.fn x = true ∨ X.env.scope.names.lookup x = some .local := by first | exact .inl rfl | exact .inr rfl | assumption) : DS X K G nw O O Ol (.Assign [.Name x pos'] e pos) (tAsg te (gName i)) (sSetH O i f) := ⟨ps_set hN hi hx h.pe hs hf, ad_setH h.ad hO⟩
/-- x = e, e a new list that x owns -/
def sSetN (i : Nat) (f : En → G.T → Option (List PyData × G.T)) : Fst G := fun ρ g => match f ρ g with
  | some (d, g') => if immL d = true then some (.nx (ρ.set i (.d (.list d))) g') else none
  | none => none
def sSetNH (O : List Nat) (i : Nat) (f : En → G.T → Option (List PyData × G.T)) : Fst G := fun ρ g => match f (hide O ρ) g with
  | some (d, g') => some (.nx (ρ.set i (.d (.list d))) g')
  | none => none
theorem ad_setN {K : PySem.W.Frag} {i : Nat} {f : En → G.T → Option (List PyData × G.T)} (h : AdN K G te f) (h1 : subO O' (i :: O) = true) (h2 : subO (i :: O) O' = true) : AdS K G nw O O' Ol (tAsg te (gName i)) (sSetN i f) := fun S0 H0 σ H S ρ g out D c e q => by
  unfold sSetN at e
  split at e
  · rename_i d g' hf
    split at e
    · rename_i him
      cases e
      refine c.evalN h hf him fun a vs S' H' c' s h0 hs hw ho rl hl => ?_
      refine q _ S' H' (c'.take ⟨vs, ho, rl, hl⟩ h0 hs hw (fun j hj => by simpa using subO_mem h1 j hj) (fun j hj => subO_mem h2 j (List.mem_cons_of_mem _ hj)) (subO_mem h2 i List.mem_cons_self)) s
    · cases e
  · cases e
theorem ad_setNH {K : PySem.W.Frag} {i : Nat} {f : En → G.T → Option (List PyData × G.T)} (h : AdN K G te f) (h1 : subO O' (i :: O) = true) (h2 : subO (i :: O) O' = true) : AdS K G nw O O' Ol (tAsg te (gName i)) (sSetNH O i f) := fun S0 H0 σ H S ρ g out D c e q => by
  unfold sSetNH at e
  split at e
  · rename_i d g' hf
    cases e
    refine c.evalNH h hf fun a vs S' H' c' s h0 hs hw ho rl hl => ?_
    refine q _ S' H' (c'.take ⟨vs, ho, rl, hl⟩ h0 hs hw (fun j hj => by simpa using subO_mem h1 j hj) (fun j hj => subO_mem h2 j (List.mem_cons_of_mem _ hj)) (subO_mem h2 i List.mem_cons_self)) s
  · cases e
theorem ds_setN (i : Nat) {x : Str} {pos' : Pos} {f : En → G.T → Option (List PyData × G.T)} (hN : X.N.Nodup) (h : DN X K G e te f) (hi : X.N[i]? = some x := by rfl) (hx : Loc X.env.scope x := by first | exact .inl rfl | exact .inr rfl) (h1 : subO O' (i :: O) = true := by rfl) (h2 : subO (i :: O) O' = true := by rfl) (hs : swapsWith e (some (.Name x pos')) pos.line X.env = pure false := by rfl)
    (hf : X.fn x = true ∨ X.env.scope.names.lookup x = some .local := by first | exact .inl rfl | exact .inr rfl | assumption) : DS X K G nw O O' Ol (.Assign [.Name x pos'] e pos) (tAsg te (gName i)) (sSetN i f) := ⟨ps_set hN hi hx h.pe hs hf, ad_setN h.ad h1 h2⟩
theorem ds_setNH (i : Nat) {x : Str} {pos' : Pos} {f : En → G.T → Option (List PyData × G.T)} (hN : X.N.Nodup) (h : DN X K G e te f) (hi : X.N[i]? = some x := by rfl) (hx : Loc X.env.scope x := by first | exact .inl rfl | exact .inr rfl) (h1 : subO O' (i :: O) = true := by rfl) (h2 : subO (i :: O) O' = true := by rfl) (hs : swapsWith e (some (.Name x pos')) pos.line X.env = pure false := by rfl)
    (hf : X.fn x = true ∨ X.env.scope.names.lookup x = some .local := by first | exact .inl rfl | exact .inr rfl | assumption) : DS X K G nw O O' Ol (.Assign [.Name x pos'] e pos) (tAsg te (gName i)) (sSetNH O i f) := ⟨ps_set hN hi hx h.pe hs hf, ad_setNH h.ad h1 h2⟩
/-- target = e, e stable: any target -/
def sAsg (bd : PyData → En → Option En) (f : Fe G) : Fst G := fun ρ g => match f ρ g with
  | some (d, g') => if imm d = true then (bd d ρ).map (fun ρ' => .nx ρ' g') else none
  | none => none
def sAsgH (O : List Nat) (bd : PyData → En → Option En) (f : Fe G) : Fst G := fun ρ g => match f (hide O ρ) g with
  | some (d, g') => (bd d ρ).map (fun ρ' => .nx ρ' g')
  | none => none
def disj (is O : List Nat) : Bool := is.all fun i => !O.contains i
theorem disj_mem {is O : List Nat} (h : disj is O = true) : ∀ i ∈ is, i ∉ O := fun i hi => by
  have := List.all_eq_true.mp h i hi
  simpa using this
theorem ad_asg {K : PySem.W.Frag} {bd : PyData → En → Option En} {f : Fe G} {tg : TG} (h : Ad K G te f) (hg : AdG K is tg bd) (hi : disj is O = true) : AdS K G nw O O Ol (tAsg te tg) (sAsg bd f) := fun S0 H0 σ H S ρ g out D c e q => by
  unfold sAsg at e
  split at e
  · rename_i d g' hf
    split at e
    · rename_i him
      simp only [Option.map_eq_some_iff] at e
      obtain ⟨ρ', hb, e⟩ := e
      cases e
      refine c.eval h hf fun v S' H' c' s r => ?_
      exact hg S' H' v d σ ρ ρ' _ c'.sh (r him) hb fun σ' up => q _ S' H' (c'.sets (disj_mem hi) up) s
    · cases e
  · cases e
theorem ad_asgH {K : PySem.W.Frag} {bd : PyData → En → Option En} {f : Fe G} {tg : TG} (h : Ad K G te f) (hg : AdG K is tg bd) (hi : disj is O = true) : AdS K G nw O O Ol (tAsg te tg) (sAsgH O bd f) := fun S0 H0 σ H S ρ g out D c e q => by
  unfold sAsgH at e
  split at e
  · rename_i d g' hf
    simp only [Option.map_eq_some_iff] at e
    obtain ⟨ρ', hb, e⟩ := e
    cases e
    refine c.evalH h hf fun v S' H' c' s r => ?_
    exact hg S' H' v d σ ρ ρ' _ c'.sh r hb fun σ' up => q _ S' H' (c'.sets (disj_mem hi) up) s
  · cases e
theorem ds_asg {tg : Expr} {g : TG} {bd : PyData → En → Option En} {f : Fe G} (is : List Nat) (h : DE X K G e te f) (hg : DG X K is tg g bd) (hO : disj is O = true := by rfl) (hs : swapsWithSole [tg] e pos.line X.env = pure false := by rfl) (hw : swappedStores [tg] e X.env = pure none := by rfl) (h1 : List.map (fun x => x.snd) (assignEach [tg] X.env) = [assign tg X.env] := by rfl) : DS X K G nw O O Ol (.Assign [tg] e pos) (tAsg te g) (sAsg bd f) :=
  ⟨ps_asg h.pe hg.pe hs hw h1, ad_asg h.ad hg.ad hO⟩
theorem ds_asgH {tg : Expr} {g : TG} {bd : PyData → En → Option En} {f : Fe G} (is : List Nat) (h : DE X K G e te f) (hg : DG X K is tg g bd) (hO : disj is O = true := by rfl) (hs : swapsWithSole [tg] e pos.line X.env = pure false := by rfl) (hw : swappedStores [tg] e X.env = pure none := by rfl) (h1 : List.map (fun x => x.snd) (assignEach [tg] X.env) = [assign tg X.env] := by rfl) : DS X K G nw O O Ol (.Assign [tg] e pos) (tAsg te g) (sAsgH O bd f) :=
  ⟨ps_asg h.pe hg.pe hs hw h1, ad_asgH h.ad hg.ad hO⟩
/-- return e -/
def sRet (f : Fe G) : Fst G := fun ρ g => match f ρ g with
  | some (d, g') => some (.rt d g')
  | none => none
theorem ad_ret {K : PySem.W.Frag} {f : Fe G} (h : Ad K G te f) : AdS K G false O O' Ol (tRet te) (sRet f) := fun S0 H0 σ H S ρ g out D c e q => by
  unfold sRet at e
  split at e
  · rename_i d g' hf
    cases e
    exact c.evalR h hf fun v S' H' t sh ok r => q v S' H' t sh ok r
  · cases e
theorem ds_ret {f : Fe G} (h : DE X K G e te f) : DS X K G false O O' Ol (.Return (some e) pos) (tRet te) (sRet f) := ⟨ps_ret h.pe, ad_ret h.ad⟩
theorem ds_retN : DS X K G false O O' Ol (.Return none pos) tRetN (sRet (fC .none)) := ⟨ps_retN, fun S0 H0 σ H S ρ g out D c e q => by
  cases e
  exact q .non S H c.st c.sh c.gok .non⟩
def sRetN (f : En → G.T → Option (List PyData × G.T)) : Fst G := fun ρ g => match f ρ g with
  | some (d, g') => if immL d = true then some (.rt (.list d) g') else none
  | none => none
/-- a new list is handed back -/
theorem ds_retNew {f : En → G.T → Option (List PyData × G.T)} (h : DN X K G e te f) : DS X K G true O O' Ol (.Return (some e) pos) (tRet te) (sRetN f) := ⟨ps_ret h.pe, fun S0 H0 σ H S ρ g out D c e q => by
  unfold sRetN at e
  split at e
  · rename_i d g' hf
    split at e
    · rename_i him
      cases e
      refine c.evalN h.ad hf him fun a vs S' H' c' s h0 hs hw ho rl hl => ?_
      exact q d rfl a vs S' H' c'.st c'.sh c'.gok h0 hs ho rl hl
    · cases e
  · cases e⟩
/-- an owned list is handed back -/
def sRetO (i : Nat) : Fst G := fun ρ g => match ρ[i]? with
  | some (.d (.list ds)) => some (.rt (.list ds) g)
  | _ => none
theorem ds_retOwn (i : Nat) {x : Str} {p : Pos} (hO : O.contains i = true := by rfl) (hN : X.N[i]? = some x := by rfl) (hv : Vis X.env.scope x := by first | exact Or.inl rfl | exact Or.inr (Or.inl rfl) | exact Or.inr (Or.inr rfl)) (hd : (x == ("__debug__" : Str)) = false := by decide)
    (hcd : (x == ("__classdict__" : Str)) = false := by decide) : DS X K G true O O' Ol (.Return (some (.Name x p)) pos) (tRet (tVar i)) (sRetO i) := ⟨ps_ret (pe_var hN hv hd hcd), fun S0 H0 σ H S ρ g out D c e q => by
  unfold sRetO at e
  split at e
  · rename_i ds hx
    cases e
    obtain ⟨a, h1, ⟨vs, h2, h2', h2''⟩, h3, h4⟩ := c.own i _ hx (by simpa using hO) (fun z => nomatch z)
    exact ⟨_, h1, q ds rfl a vs S H c.st c.sh c.gok h3 h4 h2 h2' h2''⟩
  · cases e⟩
/-- an expression alone -/
def sDo (f : Fe G) : Fst G := fun ρ g => match f ρ g with
  | some (_, g') => some (.nx ρ g')
  | none => none
theorem ds_do {f : Fe G} (h : DE X K G e te f) (hs : swapsWith e none pos.line X.env = pure false := by rfl) : DS X K G nw O O Ol (.Expr e pos) (tDrop te) (sDo f) := ⟨ps_expr h.pe hs, fun S0 H0 σ H S ρ g out D c e q => by
  unfold sDo at e
  split at e
  · rename_i d g' hf
    cases e
    exact c.eval h.ad hf fun v S' H' c' s r => q _ S' H' c' s
  · cases e⟩
def sIf (f : Ft G) (F F' : Fst G) : Fst G := fun ρ g => match f ρ g with
  | some (true, g') => F ρ g'
  | some (false, g') => F' ρ g'
  | none => none
theorem ds_if {f : Ft G} {xs ys : List Stmt} {tc : TT} (h : DT X K G c tc f) (h1 : DSs X K G nw O O' Ol xs t F) (h2 : DSs X K G nw O O' Ol ys u F') : DS X K G nw O O' Ol (.If c xs ys pos) (tIfS tc t u) (sIf f F F') := ⟨ps_if h.pe h1.pe h2.pe, fun S0 H0 σ H S ρ g out D c e q => by
  unfold sIf at e
  split at e
  · rename_i g' hf
    exact c.evalT h.ad hf fun S' H' c' s => iteT (h1.ad S0 H0 σ H' S' ρ g' out D c' e (q.same s))
  · rename_i g' hf
    exact c.evalT h.ad hf fun S' H' c' s => iteF (h2.ad S0 H0 σ H' S' ρ g' out D c' e (q.same s))
  · cases e⟩
def sBk : Fst G := fun ρ g => some (.bk ρ g)
def sCt : Fst G := fun ρ g => some (.ct ρ g)
theorem ds_break : DS X K G nw O O' O (.Break pos) tBreak sBk := ⟨ps_break, fun S0 H0 σ H S ρ g out D c e q => by cases e; exact q σ S H c (Same.refl _)⟩
theorem ds_continue : DS X K G nw O O' O (.Continue pos) tCont sCt := ⟨ps_continue, fun S0 H0 σ H S ρ g out D c e q => by cases e; exact q σ S H c (Same.refl _)⟩
/-- x op= e, x stable -/
def sAug (i : Nat) (p : PyData → PyData → Option PyData) (f : Fe G) : Fst G := fun ρ g => match ρ[i]? with
  | some (.d x) => if imm x = true then (match f ρ g with
    | some (y, g') => if imm y = true then (match p x y with
      | some z => if imm z = true then some (.nx (ρ.set i (.d z)) g') else none
      | none => none) else none
    | none => none) else none
  | _ => none
theorem ds_aug (i : Nat) {x : Str} {op : Operator} {ti : TIp} {pos' : Pos} {p : PyData → PyData → Option PyData} {f : Fe G} (hN : X.N.Nodup) (ho : PIp X op ti) (hp : AdR K ti p) (h : DE X K G e te f) (hi : X.N[i]? = some x := by rfl) (hx : Loc X.env.scope x := by first | exact .inl rfl | exact .inr rfl) (hO : O.contains i = false := by rfl)
    (pa : PE X e te → PIp X op ti → PS X (.AugAssign (.Name x pos') op e pos) (tAug i te ti)) : DS X K G nw O O Ol (.AugAssign (.Name x pos') op e pos) (tAug i te ti) (sAug i p f) := ⟨pa h.pe ho, fun S0 H0 σ H S ρ g out D c e q => by
  unfold sAug at e
  split at e
  · rename_i d hd
    split at e
    · rename_i hdi
      split at e
      · rename_i y g' hf
        split at e
        · rename_i hyi
          split at e
          · rename_i z hz
            split at e
            · rename_i hzi
              cases e
              obtain ⟨v, hv, r⟩ := c.env i _ hd (by simpa using hO) (fun z => nomatch z)
              cases r with
              | d r =>
                refine ⟨v, hv, c.eval h.ad hf fun w S' H' c' s rw => ?_⟩
                refine hp S' H' v w d y z _ c'.sh (r.mono s) (rw hyi) hz fun u S2 H2 ex r2 => ?_
                obtain ⟨t2, s2, l2⟩ := ex.to c'.sh c'.gh
                have c2 := c'.step (g' := g') t2 s2 (G.loc _ _ _ l2 c'.gok)
                exact q _ S2 H2 (c2.sets (is := [i]) (fun j hj => by simp at hj; subst hj; simpa using hO) (.set .refl (by simp) r2)) (s.trans t2.s)
            · cases e
          · cases e
        · cases e
      · cases e
    · cases e
  · cases e⟩
/-- x.append(e), x owned -/
def sApp (i : Nat) (f : Fe G) : Fst G := fun ρ g => match ρ[i]? with
  | some (.d (.list ds)) => (match f ρ g with
    | some (y, g') => if imm y = true ∧ ds.length < sizeLine then some (.nx (ρ.set i (.d (.list (ds ++ [y])))) g') else none
    | none => none)
  | _ => none
def sAppH (O : List Nat) (i : Nat) (f : Fe G) : Fst G := fun ρ g => match ρ[i]? with
  | some (.d (.list ds)) => (match f (hide O ρ) g with
    | some (y, g') => if ds.length < sizeLine then some (.nx (ρ.set i (.d (.list (ds ++ [y])))) g') else none
    | none => none)
  | _ => none
theorem ad_app {K : PySem.W.Frag} {i : Nat} {f : Fe G} (h : Ad K G te f) (hO : O.contains i = true) : AdS K G nw O O Ol (tDrop (tBM K "list" rAppend (tVar i) (tCons te tNil))) (sApp i f) := fun S0 H0 σ H S ρ g out D c e q => by
  have hO' : i ∈ O := by simpa using hO
  unfold sApp at e
  split at e
  · rename_i ds hx
    split at e
    · rename_i y g' hf
      split at e
      · rename_i hc
        cases e
        obtain ⟨a, h1, ⟨vs, h2, _⟩, h3, h4⟩ := c.own i _ hx hO' (fun z => nomatch z)
        refine ⟨_, h1, .inl ⟨rfl, vs, .inl (.inl h2)⟩, ?_⟩
        refine c.eval h hf fun v S' H' c' s r => ?_
        obtain ⟨a', k1, ⟨ws, k2, k3, k4⟩, _⟩ := c'.own i _ hx hO' (fun z => nomatch z)
        rw [h1] at k1
        cases k1
        refine ⟨a, ws, v, rfl, rfl, k2, by rw [k3.length]; exact hc.2, ?_⟩
        refine q σ S' _ (c'.put hO' hx (fun z => nomatch z) h1 ⟨ws ++ [v], upd_same, k3.append (.cons (r hc.1) .nil), by simp; omega⟩) s
      · cases e
    · cases e
  · cases e
theorem ad_appH {K : PySem.W.Frag} {i : Nat} {f : Fe G} (h : Ad K G te f) (hO : O.contains i = true) : AdS K G nw O O Ol (tDrop (tBM K "list" rAppend (tVar i) (tCons te tNil))) (sAppH O i f) := fun S0 H0 σ H S ρ g out D c e q => by
  have hO' : i ∈ O := by simpa using hO
  unfold sAppH at e
  split at e
  · rename_i ds hx
    split at e
    · rename_i y g' hf
      split at e
      · rename_i hc
        cases e
        obtain ⟨a, h1, ⟨vs, h2, _⟩, h3, h4⟩ := c.own i _ hx hO' (fun z => nomatch z)
        refine ⟨_, h1, .inl ⟨rfl, vs, .inl (.inl h2)⟩, ?_⟩
        refine c.evalH h hf fun v S' H' c' s r => ?_
        obtain ⟨a', k1, ⟨ws, k2, k3, k4⟩, _⟩ := c'.own i _ hx hO' (fun z => nomatch z)
        rw [h1] at k1
        cases k1
        refine ⟨a, ws, v, rfl, rfl, k2, by rw [k3.length]; exact hc, ?_⟩
        refine q σ S' _ (c'.put hO' hx (fun z => nomatch z) h1 ⟨ws ++ [v], upd_same, k3.append (.cons r .nil), by simp; omega⟩) s
      · cases e
    · cases e
  · cases e

/-! ### loops -/
structure Iter (K : PySem.W.Frag) (J : It) (S : Hp) (ds : List PyData) : Prop where
  go : ∀ (i : Nat) (S2 H2 : Hp), Same S S2 → Same S2 H2 → i < ds.length → J.go i H2
  stop : ∀ (i : Nat) (S2 H2 : Hp), Same S S2 → Same S2 H2 → ds.length ≤ i → J.stop i H2
  len : ds.length ≤ sizeLine
  yld : ∀ (i : Nat) (S2 H2 : Hp) (x : V) (H3 : Hp), Same S S2 → Same S2 H2 → i < ds.length → J.yld i H2 x H3 → ∃ d S3, ds[i]? = some d ∧ Ext S2 H2 S3 H3 ∧ R K S3 x d
def AdI (K : PySem.W.Frag) (G : Gh) (t : TI) (f : En → G.T → Option (List PyData × G.T)) : Prop :=
  ∀ (σ : St) (H S : Hp) (ρ : En) (g : G.T) (d : List PyData) (g' : G.T) (Q : It → Hp → Prop), Ctx K G S H σ ρ g → f ρ g = some (d, g') →
    (∀ J S' H', Stp G S H S' H' → Ctx K G S' H' σ ρ g' → Iter K J S' d → Q J H') → t σ H Q
structure DI (X : Cx) (K : PySem.W.Frag) (G : Gh) (tg iter : Expr) (t : TI) (f : En → G.T → Option (List PyData × G.T)) : Prop where
  pe : PI X tg iter t
  ad : AdI K G t f
def loopF {T : Type} (bd : PyData → En → Option En) (F : En → T → Option (Out T)) : List PyData → En → T → Option (Out T)
  | [], ρ, g => some (.nx ρ g)
  | d :: ds, ρ, g => match bd d ρ with
    | none => none
    | some ρ1 => match F ρ1 g with
      | some (.nx ρ2 g2) => loopF bd F ds ρ2 g2
      | some (.ct ρ2 g2) => loopF bd F ds ρ2 g2
      | some (.bk ρ2 g2) => some (.nx ρ2 g2)
      | some (.rt d g2) => some (.rt d g2)
      | none => none
def sForH (O : List Nat) (f : En → G.T → Option (List PyData × G.T)) (bd : PyData → En → Option En) (F : Fst G) : Fst G := fun ρ g => match f (hide O ρ) g with
  | some (ds, g') => loopF bd F ds ρ g'
  | none => none
theorem ad_loop {K : PySem.W.Frag} {J : It} {S1 : Hp} {ds : List PyData} {tg : TG} {bd : PyData → En → Option En} {tb : TS} (it : Iter K J S1 ds) (hg : AdG K is tg bd) (hb : AdS K G nw O O O tb F) (hi : disj is O = true) {S0 H0 : Hp} {σ : St} {H : Hp} {ρ : En} {g : G.T} {out : Out G.T} {D : Ends}
    (c : SCtx K G S0 H0 O S1 H σ ρ g) (e : loopF bd F ds ρ g = some out) (q : Ful K G nw S0 H0 O Ol S1 D out) :
    ∃ W : Nat → Nat → St → Hp → Prop, (∃ m, W 0 m σ H) ∧ ∀ i m σ H, W i m σ H →
      (J.stop i H ∧ D.nx σ H) ∨ (J.go i H ∧ ∃ N : St → Hp → Prop, (∀ σ' H', N σ' H' → ∃ m', m' < m ∧ W (i + 1) m' σ' H') ∧ ∀ x H', J.yld i H x H' → tg x σ H' fun σ2 H2 => tb { D with nx := N, ct := N, bk := D.nx } σ2 H2) := by
  refine ⟨fun i m σ H => i ≤ ds.length ∧ m = ds.length - i ∧ ∃ S ρ g, Same S1 S ∧ SCtx K G S0 H0 O S H σ ρ g ∧ loopF bd F (ds.drop i) ρ g = some out, ⟨_, Nat.zero_le _, rfl, S1, ρ, g, Same.refl _, c, e⟩, ?_⟩
  rintro i m σ H ⟨hl, rfl, S, ρ, g, s, c, e⟩
  by_cases hlt : i < ds.length
  · refine .inr ⟨it.go i S H s c.sh hlt, ?_⟩
    obtain ⟨d, hd⟩ : ∃ d, ds[i]? = some d := ⟨ds[i], List.getElem?_eq_getElem hlt⟩
    have hdr : ds.drop i = d :: ds.drop (i + 1) := by
      obtain ⟨h1, h2⟩ := List.getElem?_eq_some_iff.mp hd
      rw [← h2]; exact List.drop_eq_getElem_cons h1
    rw [hdr] at e
    unfold loopF at e
    refine ⟨fun σ' H' => ∃ S ρ g, Same S1 S ∧ SCtx K G S0 H0 O S H' σ' ρ g ∧ loopF bd F (ds.drop (i + 1)) ρ g = some out, fun σ' H' ⟨S', ρ', g', s', c', e'⟩ => ⟨ds.length - (i + 1), by omega, by omega, rfl, S', ρ', g', s', c', e'⟩, fun x H' y => ?_⟩
    obtain ⟨d', S3, hd', ex, r⟩ := it.yld i S H x H' s c.sh hlt y
    rw [hd] at hd'
    cases hd'
    obtain ⟨t3, s3, l3⟩ := ex.to c.sh c.gh
    have c3 := c.step (g' := g) t3 s3 (G.loc _ _ _ l3 c.gok)
    have s13 : Same S1 S3 := s.trans t3.s
    cases hb1 : bd d ρ with
    | none => rw [hb1] at e; cases e
    | some ρ1 =>
      rw [hb1] at e
      simp only at e
      refine hg S3 H' x d σ ρ ρ1 _ c3.sh r hb1 fun σ1 u1 => ?_
      have c4 := c3.sets (disj_mem hi) u1
      cases hF : F ρ1 g with
      | none => rw [hF] at e; cases e
      | some o =>
        rw [hF] at e
        refine hb S0 H0 σ1 H' S3 ρ1 g o _ c4 hF ?_
        cases o with
        | nx ρ2 g2 => exact fun σ' S' H' c5 s5 => ⟨S', ρ2, g2, s13.trans s5, c5, e⟩
        | ct ρ2 g2 => exact fun σ' S' H' c5 s5 => ⟨S', ρ2, g2, s13.trans s5, c5, e⟩
        | bk ρ2 g2 =>
          cases e
          exact fun σ' S' H' c5 s5 => q σ' S' H' c5 (s13.trans s5)
        | rt d2 g2 =>
          cases e
          exact q
  · have : i = ds.length := by omega
    subst this
    rw [List.drop_length] at e
    cases e
    exact .inl ⟨it.stop _ S H s c.sh (Nat.le_refl _), q σ S H c s⟩
theorem ds_forH {tg iter : Expr} {body : List Stmt} {wi : TI} {gt : TG} {tb : TS} {f : En → G.T → Option (List PyData × G.T)} {bd : PyData → En → Option En} (is : List Nat) (hp : PassesOwn (model X.prog X.w) X.A X.env X.xe) (hc : X.calm = true) (hi : DI X K G tg iter wi f) (hg : DG X K is tg gt bd) (hb : DSs X K G nw O O O body tb F) (hO : disj is O = true := by rfl)
    (pf : PI X tg iter wi → PG X tg gt → PSs X body tb → PS X (.For tg iter body [] pos) (tFor wi gt tb)) : DS X K G nw O O Ol (.For tg iter body [] pos) (tFor wi gt tb) (sForH O f bd F) := ⟨pf hi.pe hg.pe hb.pe, fun S0 H0 σ H S ρ g out D c e q => by
  unfold sForH at e
  split at e
  · rename_i ds g' hf
    refine hi.ad σ H S (hide O ρ) g ds g' _ c.hid hf fun J S1 H1 t c1 it => ?_
    exact ad_loop it hg.ad hb.ad hO (c.step t c1.sh c1.gok) e (q.same t.s)
  · cases e⟩
def whF {T : Type} (f : En → T → Option (Bool × T)) (F : En → T → Option (Out T)) : Nat → En → T → Option (Out T)
  | 0, _, _ => none
  | n + 1, ρ, g => match f ρ g with
    | none => none
    | some (false, g1) => some (.nx ρ g1)
    | some (true, g1) => match F ρ g1 with
      | some (.nx ρ2 g2) => whF f F n ρ2 g2
      | some (.ct ρ2 g2) => whF f F n ρ2 g2
      | some (.bk ρ2 g2) => some (.nx ρ2 g2)
      | some (.rt d g2) => some (.rt d g2)
      | none => none
theorem ds_while {body : List Stmt} {tc : TT} {tb : TS} {f : Ft G} (n : Nat) (hp : PassesOwn (model X.prog X.w) X.A X.env X.xe) (hc : DT X K G c tc f) (hb : DSs X K G nw O O O body tb F) : DS X K G nw O O Ol (.While c body [] pos) (tWhile tc tb) (whF f F n) := ⟨ps_while hp hc.pe hb.pe, fun S0 H0 σ H S1 ρ g out D c e q => by
  refine ⟨fun m σ H => ∃ S ρ g, Same S1 S ∧ SCtx K G S0 H0 O S H σ ρ g ∧ whF f F m ρ g = some out, ⟨n, S1, ρ, g, Same.refl _, c, e⟩, ?_⟩
  rintro m σ H ⟨S, ρ, g, s, c, e⟩
  cases m with
  | zero => cases e
  | succ m =>
    unfold whF at e
    split at e
    · cases e
    · rename_i g1 hf
      cases e
      exact c.evalT hc.ad hf fun S' H' c' s' => iteF (q σ S' H' c' (s.trans s'))
    · rename_i g1 hf
      refine c.evalT hc.ad hf fun S' H' c' s' => iteT ?_
      refine ⟨fun σ' H' => ∃ S ρ g, Same S1 S ∧ SCtx K G S0 H0 O S H' σ' ρ g ∧ whF f F m ρ g = some out, fun σ' H' h => ⟨m, by omega, h⟩, ?_⟩
      cases hF : F ρ g1 with
      | none => rw [hF] at e; cases e
      | some o =>
        rw [hF] at e
        refine hb.ad S0 H0 σ H' S' ρ g1 o _ c' hF ?_
        cases o with
        | nx ρ2 g2 => exact fun σ' S2 H' c5 s5 => ⟨S2, ρ2, g2, (s.trans s').trans s5, c5, e⟩
        | ct ρ2 g2 => exact fun σ' S2 H' c5 s5 => ⟨S2, ρ2, g2, (s.trans s').trans s5, c5, e⟩
        | bk ρ2 g2 =>
          cases e
          exact fun σ' S2 H' c5 s5 => q σ' S2 H' c5 ((s.trans s').trans s5)
        | rt d2 g2 =>
          cases e
          exact q⟩
theorem whF_mono {T : Type} {f : En → T → Option (Bool × T)} {F : En → T → Option (Out T)} : ∀ {m n : Nat} {ρ : En} {g : T} {o : Out T}, m ≤ n → whF f F m ρ g = some o → whF f F n ρ g = some o
  | 0, _, _, _, _, _, h => by cases h
  | m + 1, 0, _, _, _, h, _ => by omega
  | m + 1, n + 1, ρ, g, o, h, e => by
    unfold whF at e ⊢
    cases hf : f ρ g with
    | none => rw [hf] at e; cases e
    | some p =>
      obtain ⟨k, g1⟩ := p
      rw [hf] at e
      cases k with
      | false => exact e
      | true =>
        simp only at e ⊢
        cases hF : F ρ g1 with
        | none => rw [hF] at e; cases e
        | some q =>
          rw [hF] at e
          cases q with
          | nx ρ2 g2 => exact whF_mono (Nat.le_of_succ_le_succ h) e
          | ct ρ2 g2 => exact whF_mono (Nat.le_of_succ_le_succ h) e
          | bk ρ2 g2 => exact e
          | rt d g2 => exact e
end

/-! ## defs -/
def enter (n : Nat) (as : List Ag) : En := as ++ List.replicate (n - as.length) .no
def outR {T : Type} : Option (Out T) → Option (PyData × T)
  | some (.rt d g) => some (d, g)
  | some (.nx _ g) => some (.none, g)
  | _ => none
section
variable {P : Program} {w : World} {K : PySem.W.Frag} {mg : Str → Option Value} {base : Heap} {G : Gh}
theorem sctx_start {N : List Str} {vs : List V} {as : List Ag} {S H : Hp} {g : G.T} (sh : Same S H) (r : AsR K S vs as) (ok : G.ok g H) (gs : ∀ a, G.dom a → S a = none) (gh : ∀ a, G.dom a → H a ≠ none) : SCtx K G S H [] S H (L2.start N vs) (enter N.length as) g := by
  refine ⟨Stp.refl _ _ _, sh, ?_, fun i x hx hi hn => ?_, fun i x hx hi => absurd hi (by simp), fun i j a x y hi => absurd hi (by simp), ok, gs, gh, gh⟩
  · unfold L2.start enter; simp [r.length]
  · unfold enter at hx
    unfold L2.start
    by_cases h : i < as.length
    · rw [List.getElem?_append_left h] at hx
      rw [List.getElem?_append_left (by rw [List.length_map, r.length]; exact h)]
      have get : ∀ {vs : List V} {as : List Ag} (_ : AsR K S vs as) (i : Nat) (x : Ag), as[i]? = some x → ∃ v, vs[i]? = some v ∧ AgR K S v x := by
        intro vs as r
        induction r with
        | nil => intro i x h; simp at h
        | cons p q ih =>
          intro i x h
          cases i with
          | zero => simp at h; subst h; exact ⟨_, rfl, p⟩
          | succ i => obtain ⟨v, a, b⟩ := ih i x (by simpa using h); exact ⟨v, by simpa using a, b⟩
      obtain ⟨v, a, b⟩ := get r i x hx
      exact ⟨v, by rw [List.getElem?_map, a]; rfl, b⟩
    · rw [List.getElem?_append_right (by omega), List.getElem?_replicate] at hx
      split at hx
      · cases hx; exact absurd rfl hn
      · cases hx
/-- THE RULE for a def -/
theorem def_ok {x qual : Str} {st : Stmt} {f : Addr} {fd : FuncData} {N ps : List Str} {k : Nat} {sem : Fs G} {F : Fst G} (U : Fun K x qual st f fd) (Sc : FnScope N ps (defScope st)) (hm : mg x = some (.ref f)) (hb : Binds K fd ps [])
    (hsem : ∀ as g r, sem as g = some r → as.length = ps.length ∧ outR (F (enter N.length as) g) = some r)
    (hbody : ∀ (cdv : Value) (A : Around) (outer : List Env) (s : Shared) (H : Hp) (E : XK), Room k (A.deeper (envOfC qual (defScope st) s.heap.objs.size f cdv)) → ∃ ts O', DSs (cxOf CX0 P w K mg base N qual (defScope st) f cdv A outer s H E).nox K G false [] O' [] (defBody st) ts F) :
    CallOk P w K mg base (k + 1) x (GSp K G sem) := by
  refine ⟨f, fd, ps, U.ok Sc (fun vs H Q E h => ?_) (fun cdv A outer s H vs Q E hr h => ?_), hm, U.kp, hb⟩
  · obtain ⟨S, as, g, d, g', _, r, _, _, _, e, _⟩ := h
    rw [r.length]; exact (hsem as g _ e).1
  · obtain ⟨S, as, g, d, g', sh, r, ok, gs, gh, e, q⟩ := h
    obtain ⟨ts, O', D⟩ := hbody cdv A outer s H E hr
    refine ⟨ts, D.pe, ?_⟩
    obtain ⟨_, e⟩ := hsem as g _ e
    cases hF : F (enter N.length as) g with
    | none => rw [hF] at e; cases e
    | some o =>
      rw [hF] at e
      refine D.ad S H _ H S _ g o _ (sctx_start sh r ok gs gh) hF ?_
      cases o with
      | nx ρ' g2 => cases e; exact fun σ' S' H' c s => q _ S' H' c.st c.sh c.gok .non
      | rt d2 g2 => cases e; exact fun v S' H' t s ok r => q v S' H' t s ok r
      | bk ρ' g2 => cases e
      | ct ρ' g2 => cases e
theorem def_okN {x qual : Str} {st : Stmt} {f : Addr} {fd : FuncData} {N ps : List Str} {k : Nat} {sem : List Ag → G.T → Option (List PyData × G.T)} {F : Fst G} (U : Fun K x qual st f fd) (Sc : FnScope N ps (defScope st)) (hm : mg x = some (.ref f)) (hb : Binds K fd ps [])
    (hsem : ∀ as g r, sem as g = some r → as.length = ps.length ∧ F (enter N.length as) g = some (.rt (.list r.1) r.2))
    (hbody : ∀ (cdv : Value) (A : Around) (outer : List Env) (s : Shared) (H : Hp) (E : XK), Room k (A.deeper (envOfC qual (defScope st) s.heap.objs.size f cdv)) → ∃ ts O', DSs (cxOf CX0 P w K mg base N qual (defScope st) f cdv A outer s H E).nox K G true [] O' [] (defBody st) ts F) :
    CallOk P w K mg base (k + 1) x (GSpN K G sem) := by
  refine ⟨f, fd, ps, U.ok Sc (fun vs H Q E h => ?_) (fun cdv A outer s H vs Q E hr h => ?_), hm, U.kp, hb⟩
  · obtain ⟨S, as, g, d, g', _, r, _, _, _, e, _⟩ := h
    rw [r.length]; exact (hsem as g _ e).1
  · obtain ⟨S, as, g, d, g', sh, r, ok, gs, gh, e, q⟩ := h
    obtain ⟨ts, O', D⟩ := hbody cdv A outer s H E hr
    refine ⟨ts, D.pe, ?_⟩
    obtain ⟨_, e⟩ := hsem as g _ e
    refine D.ad S H _ H S _ g _ _ (sctx_start sh r ok gs gh) e ?_
    exact fun ds hd a vs S' H' t s ok h0 hs ho rl hl => by
      cases hd
      exact q a vs S' H' t s ok h0 hs ho rl hl
end
end DL

set_option Elab.async false
set_option linter.all false
set_option maxRecDepth 100000
set_option maxHeartbeats 4000000
namespace DL
open PySem PySem.Spec PyProof.Rows L2

/-! ## operators by data -/
theorem OpR.orL {X : Cx} {f : Value → Value → Sem Value} {r r' : R2} (h : OpR X f r) (h' : OpR X f r') : OpR X f (fun x y H Q => r x y H Q ∨ r' x y H Q) := OpR.or h h'
def dI2 (f : Int → Int → PyData) : PyData → PyData → Option PyData
  | .int i, .int j => some (f i j)
  | _, _ => none
theorem adr_I0 {K : PySem.W.Frag} {g : Int → Int → V} {f : Int → Int → PyData} (hr : ∀ S i j, R K S (g i j) (f i j)) : AdR K (rI0 g) (dI2 f) := fun S H x y dx dy d Q sh rx ry h q => by
  cases rx <;> cases ry <;> first | (cases h; done) | skip
  cases h
  exact ⟨_, _, rfl, rfl, q _ S H .refl (hr _ _ _)⟩
def dIC (C : Int → Int → Prop) [∀ i j, Decidable (C i j)] (f : Int → Int → PyData) : PyData → PyData → Option PyData
  | .int i, .int j => if C i j then some (f i j) else none
  | _, _ => none
theorem adr_IC {K : PySem.W.Frag} {C C' : Int → Int → Prop} [∀ i j, Decidable (C i j)] {g : Int → Int → V} {f : Int → Int → PyData} (hC : ∀ i j, C i j → C' i j) (hr : ∀ S i j, R K S (g i j) (f i j)) : AdR K (rI C' g) (dIC C f) := fun S H x y dx dy d Q sh rx ry h q => by
  cases rx <;> cases ry <;> first | (cases h; done) | skip
  unfold dIC at h
  simp only at h
  split at h
  · rename_i hc
    cases h
    exact ⟨_, _, rfl, rfl, hC _ _ hc, q _ S H .refl (hr _ _ _)⟩
  · cases h
/-- + -/
def dAdd : PyData → PyData → Option PyData
  | .int i, .int j => some (.int (i + j))
  | .str x, .str y => if x.length + y.length ≤ sizeLine then some (.str (x ++ y)) else none
  | .tuple a, .tuple b => if a.length + b.length ≤ sizeLine then some (.tuple (a ++ b)) else none
  | _, _ => none
def rAddA (K : PySem.W.Frag) : R2 := fun x y H Q => rI0 (fun i j => .int (i + j)) x y H Q ∨ (∃ i j, x = .str i ∧ y = .str j ∧ i.length + j.length ≤ sizeLine ∧ Q (.str (i ++ j)) H) ∨ rCatF K x y H Q
theorem opAdd {X : Cx} : OpR X (binaryOp .Add) (rAddA X.K) := OpR.or op_add (OpR.or op_add_str op_catF)
theorem adAdd {K : PySem.W.Frag} : AdR K (rAddA K) dAdd := fun S H x y dx dy d Q sh rx ry h q => by
  cases rx <;> cases ry <;> first | (cases h; done) | skip
  · cases h
    exact .inl ⟨_, _, rfl, rfl, q _ S H .refl (.int _)⟩
  · unfold dAdd at h
    simp only at h
    split at h
    · rename_i hl
      cases h
      exact .inr (.inl ⟨_, _, rfl, rfl, hl, q _ S H .refl (.str _)⟩)
    · cases h
  · rename_i a xs ds s1 l1 r1 b ys es s2 l2 r2
    unfold dAdd at h
    simp only at h
    split at h
    · rename_i hl
      cases h
      refine .inr (.inr ⟨_, _, xs, ys, rfl, rfl, (s1.mono sh).T, (s2.mono sh).T, by rw [r1.length, r2.length]; exact hl, fun e => ?_, fun e1 e => ?_, fun e1 e2 p o hp ho => ?_⟩)
      · subst e
        cases r1
        exact q _ S H .refl (.tup s2 (by simpa using hl) r2)
      · subst e
        cases r2
        exact q _ S H .refl (.tup s1 (by simpa using hl) (by simpa using r1))
      · exact q _ _ _ (.new .refl hp) (.tup (.inl ⟨o, upd_same, ho⟩) (by simpa using hl) ((r1.append r2).mono (same_new (sh.free hp))))
    · cases h
def dSub := dI2 fun i j => .int (i - j)
theorem adSub {K : PySem.W.Frag} : AdR K (rI0 fun i j => .int (i - j)) dSub := adr_I0 fun _ _ _ => .int _
instance (i j : Int) : Decidable (CMulW i j) := by unfold CMulW; infer_instance
instance (i j : Int) : Decidable (CDivW i j) := by unfold CDivW; infer_instance
def dMul := dIC CMulW fun i j => .int (i * j)
theorem adMul {K : PySem.W.Frag} : AdR K (rI CMulW fun i j => .int (i * j)) dMul := adr_IC (fun _ _ h => h) fun _ _ _ => .int _
def dDiv := dIC CDivW fun i j => .int (i / j)
theorem adDiv {K : PySem.W.Frag} : AdR K (rI CDivW fun i j => .int (i / j)) dDiv := adr_IC (fun _ _ h => h) fun _ _ _ => .int _
def dMod := dIC (fun _ j => 0 < j) fun i j => .int (i % j)
theorem adMod {K : PySem.W.Frag} : AdR K (rI (fun _ j => 0 < j) fun i j => .int (i % j)) dMod := adr_IC (fun _ _ h => h) fun _ _ _ => .int _
instance (i j : Int) : Decidable (CPow i j) := by unfold CPow; infer_instance
def dPow := dIC CPow fun i j => .int (i ^ j.toNat)
theorem adPow {K : PySem.W.Frag} : AdR K (rI CPow fun i j => .int (i ^ j.toNat)) dPow := adr_IC (fun _ _ h => h) fun _ _ _ => .int _

/-- comparisons -/
def dCmp (f : Int → Int → Bool) (g : Str → Str → Bool) : PyData → PyData → Option PyData
  | .int i, .int j => some (.bool (f i j))
  | .str i, .str j => some (.bool (g i j))
  | _, _ => none
def rCmpA (f : Int → Int → Bool) (g : Str → Str → Bool) : R2 := fun x y H Q => rI0 (fun i j => .bl (f i j)) x y H Q ∨ (∃ i j, x = .str i ∧ y = .str j ∧ Q (.bl (g i j)) H)
theorem adCmp {K : PySem.W.Frag} {f : Int → Int → Bool} {g : Str → Str → Bool} : AdR K (rCmpA f g) (dCmp f g) := fun S H x y dx dy d Q sh rx ry h q => by
  cases rx <;> cases ry <;> first | (cases h; done) | skip
  · cases h
    exact .inl ⟨_, _, rfl, rfl, q _ S H .refl (.bl _)⟩
  · cases h
    exact .inr ⟨_, _, rfl, rfl, q _ S H .refl (.bl _)⟩
abbrev dLt := dCmp (fun i j => decide (i < j)) (fun i j => decide (i.cps.toList < j.cps.toList))
theorem opLt {X : Cx} : OpR X (compareOp .Lt) (rCmpA (fun i j => decide (i < j)) (fun i j => decide (i.cps.toList < j.cps.toList))) := OpR.or op_lt op_lt_str
def dCmpI (f : Int → Int → Bool) := dI2 fun i j => .bool (f i j)
theorem adCmpI {K : PySem.W.Frag} {f : Int → Int → Bool} : AdR K (rI0 fun i j => .bl (f i j)) (dCmpI f) := adr_I0 fun _ _ _ => .bl _
abbrev dLe := dCmpI fun i j => decide (i ≤ j)
abbrev dGt := dCmpI fun i j => decide (j < i)
abbrev dGe := dCmpI fun i j => decide (j ≤ i)

/-- == -/
def sc2 : PyData → PyData → Bool
  | .none, .none => true | .none, .int _ => true | .int _, .none => true | .none, .bool _ => true | .bool _, .none => true | .none, .str _ => true | .str _, .none => true
  | .int _, .int _ => true | .bool _, .bool _ => true | .str _, .str _ => true
  | .int _, .str _ => true | .str _, .int _ => true | .bool _, .str _ => true | .str _, .bool _ => true
  | _, _ => false
def dEqB (x y : PyData) : Option Bool := if sc2 x y = true then some (PyData.eqv x y) else if SeqAt.shaped x = true ∧ SeqAt.shaped y = true then some (PyData.eqv x y) else none
def dEq (x y : PyData) : Option PyData := (dEqB x y).map .bool
def dNe (x y : PyData) : Option PyData := (dEqB x y).map fun b => .bool (!b)
theorem sc2_ok {K : PySem.W.Frag} {S : Hp} {x y : V} {dx dy : PyData} (rx : R K S x dx) (ry : R K S y dy) (h : sc2 dx dy = true) : scal x y = true ∧ decide (x = y) = PyData.eqv dx dy := by
  cases rx <;> cases ry <;> first | (cases h; done) | skip
  all_goals refine ⟨rfl, ?_⟩
  all_goals simp [PyData.eqv, V.int.injEq, V.str.injEq, V.bl.injEq]
  all_goals first | rw [Bool.beq_eq_decide_eq] | skip
  all_goals first | rfl | skip
  all_goals (rename_i a b; by_cases e : a = b <;> simp [e])
theorem adEq {K : PySem.W.Frag} : AdR K (fun x y H Q => rEq x y H Q ∨ rEqD K x y H Q) dEq := fun S H x y dx dy d Q sh rx ry h q => by
  unfold dEq dEqB at h
  split at h
  · rename_i hc
    cases h
    obtain ⟨a, b⟩ := sc2_ok rx ry hc
    refine .inl ⟨a, q _ S H .refl ?_⟩
    rw [b]; exact .bl _
  · split at h
    · rename_i hs
      cases h
      exact .inr ⟨dx, dy, rx.dp sh (SeqAt.canLay_of_shaped hs.1), ry.dp sh (SeqAt.canLay_of_shaped hs.2), hs.1, hs.2, q _ S H .refl (.bl _)⟩
    · cases h
theorem adNe {K : PySem.W.Frag} : AdR K (fun x y H Q => rNe x y H Q ∨ rNeD K x y H Q) dNe := fun S H x y dx dy d Q sh rx ry h q => by
  unfold dNe dEqB at h
  split at h
  · rename_i hc
    cases h
    obtain ⟨a, b⟩ := sc2_ok rx ry hc
    refine .inl ⟨a, q _ S H .refl ?_⟩
    rw [b]; exact .bl _
  · split at h
    · rename_i hs
      cases h
      exact .inr ⟨dx, dy, rx.dp sh (SeqAt.canLay_of_shaped hs.1), ry.dp sh (SeqAt.canLay_of_shaped hs.2), hs.1, hs.2, q _ S H .refl (.bl _)⟩
    · cases h
theorem opEq {X : Cx} {k : Nat} (hr : Room k X.A) : OpR X (compareOp .Eq) (fun x y H Q => rEq x y H Q ∨ rEqD X.K x y H Q) := OpR.or op_eq (op_eqD hr.units)
theorem opNe {X : Cx} {k : Nat} (hr : Room k X.A) : OpR X (compareOp .NotEq) (fun x y H Q => rNe x y H Q ∨ rNeD X.K x y H Q) := OpR.or op_ne (op_neD hr.units)
/-- x is None -/
def dIsN (b : Bool) (x y : PyData) : Option PyData := match y with
  | .none => some (.bool (xor b (match x with | .none => false | _ => true)))
  | _ => none
theorem adIsN {K : PySem.W.Frag} : AdR K (fun x y H Q => y = .non ∧ Q (.bl (decide (x = .non))) H) (dIsN true) := fun S H x y dx dy d Q sh rx ry h q => by
  cases ry <;> first | (cases h; done) | skip
  cases h
  refine ⟨rfl, q _ S H .refl ?_⟩
  cases rx <;> exact .bl _
theorem adNotN {K : PySem.W.Frag} : AdR K (fun x y H Q => y = .non ∧ Q (.bl (!decide (x = .non))) H) (dIsN false) := fun S H x y dx dy d Q sh rx ry h q => by
  cases ry <;> first | (cases h; done) | skip
  cases h
  refine ⟨rfl, q _ S H .refl ?_⟩
  cases rx <;> exact .bl _
/-- in -/
def flatD : PyData → Bool
  | .none => true | .bool _ => true | .int _ => true | .str _ => true
  | _ => false
theorem flatD_V {K : PySem.W.Frag} {S : Hp} {x : V} {d : PyData} (r : R K S x d) (h : flatD d = true) : flatV x = true := by
  cases r <;> first | (cases h; done) | rfl
theorem flatD_eq {K : PySem.W.Frag} {S : Hp} {x y : V} {d e : PyData} (r : R K S x d) (r' : R K S y e) (h : flatD d = true) (h' : flatD e = true) : eqV x y = PyData.eqv d e := by
  cases r <;> first | (cases h; done) | skip
  all_goals (cases r' <;> first | (cases h'; done) | rfl)
theorem flatL {K : PySem.W.Frag} {S : Hp} : ∀ {xs : List V} {ds : List PyData} (_ : RL K S xs ds), ds.all flatD = true → xs.all flatV = true
  | _, _, .nil, _ => rfl
  | _, _, .cons p q, h => by
    simp only [List.all_cons, Bool.and_eq_true] at h ⊢
    exact ⟨flatD_V p h.1, flatL q h.2⟩
theorem flat_in {K : PySem.W.Frag} {S : Hp} {x : V} {d : PyData} (r : R K S x d) (h : flatD d = true) : ∀ {xs : List V} {ds : List PyData} (_ : RL K S xs ds), ds.all flatD = true → inV x xs = ds.any fun e => PyData.eqv e d
  | _, _, .nil, _ => rfl
  | _, _, .cons p q, hs => by
    simp only [List.all_cons, Bool.and_eq_true] at hs
    have := flat_in r h q hs.2
    unfold inV at this ⊢
    rw [List.any_cons, List.any_cons, this, flatD_eq p r hs.1 h]
def dInB (x : PyData) : PyData → Option Bool
  | .list ys => if flatD x = true ∧ ys.all flatD = true then some (ys.any fun e => PyData.eqv e x) else if SeqAt.shaped x = true ∧ SeqAt.shaped (.list ys) = true then some (ys.any fun e => PyData.eqv e x) else none
  | .tuple ys => if flatD x = true ∧ ys.all flatD = true then some (ys.any fun e => PyData.eqv e x) else if SeqAt.shaped x = true ∧ SeqAt.shaped (.tuple ys) = true then some (ys.any fun e => PyData.eqv e x) else none
  | _ => none
def rInTD (K : PySem.W.Frag) (b : Bool) : R2 := fun x y H Q => ∃ d ds, Dp K H x d ∧ Dp K H y (.tuple ds) ∧ SeqAt.shaped d = true ∧ SeqAt.shaped (.tuple ds) = true ∧ Q (.bl (xor b (ds.any fun z => PyData.eqv z d))) H
theorem op_inTD {X : Cx} (hu : X.A.units + 65 < cLine) : OpR X (compareOp .In) (rInTD X.K false) := by
  intro pins s σ H x y v u Q I rx ry h
  obtain ⟨d, ds, hd, he, sd, se, q⟩ := h
  obtain ⟨as, r1⟩ := Dp.reads I d x v hd rx
  obtain ⟨bs, r2⟩ := Dp.reads I (.tuple ds) y u he ry
  refine SeqAt.in_tuple_reads r2 r1 (SeqAt.canLay_of_shaped se) (SeqAt.canLay_of_shaped sd) (room_in_shaped sd hu) ⟨.bl _, H, I, rfl, ?_⟩
  simpa using q
theorem op_notInTD {X : Cx} (hu : X.A.units + 65 < cLine) : OpR X (compareOp .NotIn) (rInTD X.K true) := by
  intro pins s σ H x y v u Q I rx ry h
  obtain ⟨d, ds, hd, he, sd, se, q⟩ := h
  obtain ⟨as, r1⟩ := Dp.reads I d x v hd rx
  obtain ⟨bs, r2⟩ := Dp.reads I (.tuple ds) y u he ry
  refine SeqAt.notIn_tuple_reads r2 r1 (SeqAt.canLay_of_shaped se) (SeqAt.canLay_of_shaped sd) (room_in_shaped sd hu) ⟨.bl _, H, I, rfl, ?_⟩
  simpa using q
def rInA (K : PySem.W.Frag) : R2 := fun x y H Q => rIn K false x y H Q ∨ rInD K x y H Q ∨ rInTD K false x y H Q
def rNotInA (K : PySem.W.Frag) : R2 := fun x y H Q => rIn K true x y H Q ∨ rNotInD K x y H Q ∨ rInTD K true x y H Q
theorem room65 {A : Around} {k : Nat} (r : Room (k + 1) A) : A.units + 65 < cLine := by have := r.un; omega
theorem opIn {X : Cx} {k : Nat} (hr : Room (k + 1) X.A) : OpR X (compareOp .In) (rInA X.K) := OpR.or op_in_seq (OpR.or (op_inD (room65 hr)) (op_inTD (room65 hr)))
theorem opNotIn {X : Cx} {k : Nat} (hr : Room (k + 1) X.A) : OpR X (compareOp .NotIn) (rNotInA X.K) := OpR.or op_notIn_seq (OpR.or (op_notInD (room65 hr)) (op_notInTD (room65 hr)))
def dIn (x y : PyData) : Option PyData := (dInB x y).map .bool
def dNotIn (x y : PyData) : Option PyData := (dInB x y).map fun b => .bool (!b)
theorem adInB {K : PySem.W.Frag} {S H : Hp} {x y : V} {dx dy : PyData} {b : Bool} {c : Bool} {Q : VK} (sh : Same S H) (rx : R K S x dx) (ry : R K S y dy) (h : dInB dx dy = some b) (q : Q (.bl (xor c b)) H) : rIn K c x y H Q ∨ (if c = true then rNotInD K x y H Q else rInD K x y H Q) ∨ rInTD K c x y H Q := by
  cases ry <;> first | (cases h; done) | skip
  · rename_i a ys es s l r
    unfold dInB at h
    simp only at h
    split at h
    · rename_i hc
      cases h
      refine .inl ⟨a, ys, rfl, .inl (sh.seq s), flatD_V rx hc.1, flatL r hc.2, ?_⟩
      rw [flat_in rx hc.1 r hc.2]
      cases c <;> simpa using q
    · split at h
      · rename_i hc
        cases h
        refine .inr (.inl ?_)
        cases c with
        | true => exact ⟨dx, es, rx.dp sh (SeqAt.canLay_of_shaped hc.1), R.dp sh (.lst s l r) (SeqAt.canLay_of_shaped hc.2), hc.1, hc.2, by simpa using q⟩
        | false => exact ⟨dx, es, rx.dp sh (SeqAt.canLay_of_shaped hc.1), R.dp sh (.lst s l r) (SeqAt.canLay_of_shaped hc.2), hc.1, hc.2, by simpa using q⟩
      · cases h
  · rename_i a ys es s l r
    unfold dInB at h
    simp only at h
    split at h
    · rename_i hc
      cases h
      refine .inl ⟨a, ys, rfl, .inr (s.mono sh).T, flatD_V rx hc.1, flatL r hc.2, ?_⟩
      rw [flat_in rx hc.1 r hc.2]
      cases c <;> simpa using q
    · split at h
      · rename_i hc
        cases h
        refine .inr (.inr ?_)
        exact ⟨dx, es, rx.dp sh (SeqAt.canLay_of_shaped hc.1), R.dp sh (.tup s l r) (SeqAt.canLay_of_shaped hc.2), hc.1, hc.2, q⟩
      · cases h
theorem adIn {K : PySem.W.Frag} : AdR K (rInA K) dIn := fun S H x y dx dy d Q sh rx ry h q => by
  unfold dIn at h
  simp only [Option.map_eq_some_iff] at h
  obtain ⟨b, h, rfl⟩ := h
  have := adInB (c := false) (Q := Q) sh rx ry h (by simpa using q _ S H .refl (.bl b))
  simpa [rInA] using this
theorem adNotIn {K : PySem.W.Frag} : AdR K (rNotInA K) dNotIn := fun S H x y dx dy d Q sh rx ry h q => by
  unfold dNotIn at h
  simp only [Option.map_eq_some_iff] at h
  obtain ⟨b, h, rfl⟩ := h
  have := adInB (c := true) (Q := Q) sh rx ry h (by simpa using q _ S H .refl (.bl (!b)))
  simpa [rNotInA] using this

section
variable {X : Cx} {K : PySem.W.Frag} {G : Gh} {a b c e : Expr} {es : List Expr} {ta tb tc te : TE} {t u : TA} {tA tB' : TT} {pos p : Pos} {x : Str} {fa fb : Fe G} {k : Nat}
theorem de_add (ha : DE X K G a ta fa) (hb : DE X K G b tb fb) (hK : X.K = K := by rfl) : DE X K G (.BinOp a .Add b pos) (tOp (rAddA K) ta tb) (f2 dAdd fa fb) := by
  subst hK
  exact de_bin opAdd adAdd ha hb
theorem de_sub (ha : DE X K G a ta fa) (hb : DE X K G b tb fb) : DE X K G (.BinOp a .Sub b pos) (tOp (rI0 fun i j => .int (i - j)) ta tb) (f2 dSub fa fb) := de_bin op_sub adSub ha hb
theorem de_mul (ha : DE X K G a ta fa) (hb : DE X K G b tb fb) : DE X K G (.BinOp a .Mult b pos) (tOp (rI CMulW fun i j => .int (i * j)) ta tb) (f2 dMul fa fb) := de_bin op_mulW adMul ha hb
theorem de_div (ha : DE X K G a ta fa) (hb : DE X K G b tb fb) : DE X K G (.BinOp a .FloorDiv b pos) (tOp (rI CDivW fun i j => .int (i / j)) ta tb) (f2 dDiv fa fb) := de_bin op_fdivW adDiv ha hb
theorem de_mod (ha : DE X K G a ta fa) (hb : DE X K G b tb fb) : DE X K G (.BinOp a .Mod b pos) (tOp (rI (fun _ j => 0 < j) fun i j => .int (i % j)) ta tb) (f2 dMod fa fb) := de_bin op_mod adMod ha hb
theorem de_pow (ha : DE X K G a ta fa) (hb : DE X K G b tb fb) : DE X K G (.BinOp a .Pow b pos) (tOp (rI CPow fun i j => .int (i ^ j.toNat)) ta tb) (f2 dPow fa fb) := de_bin op_pow adPow ha hb
theorem de_eq (hr : Room k X.A) (ha : DE X K G a ta fa) (hb : DE X K G b tb fb) (hK : X.K = K := by rfl) : DE X K G (.Compare a [.Eq] [b] pos) (tOp (fun x y H Q => rEq x y H Q ∨ rEqD K x y H Q) ta tb) (f2 dEq fa fb) := by
  subst hK
  exact de_cmp (opEq hr) adEq ha hb (nomark _)
theorem de_ne (hr : Room k X.A) (ha : DE X K G a ta fa) (hb : DE X K G b tb fb) (hK : X.K = K := by rfl) : DE X K G (.Compare a [.NotEq] [b] pos) (tOp (fun x y H Q => rNe x y H Q ∨ rNeD K x y H Q) ta tb) (f2 dNe fa fb) := by
  subst hK
  exact de_cmp (opNe hr) adNe ha hb (nomark _)
theorem de_lt (ha : DE X K G a ta fa) (hb : DE X K G b tb fb) : DE X K G (.Compare a [.Lt] [b] pos) (tOp (rCmpA (fun i j => decide (i < j)) (fun i j => decide (i.cps.toList < j.cps.toList))) ta tb) (f2 dLt fa fb) := de_cmp opLt adCmp ha hb (nomark _)
theorem de_le (ha : DE X K G a ta fa) (hb : DE X K G b tb fb) : DE X K G (.Compare a [.LtE] [b] pos) (tOp (rI0 fun i j => .bl (decide (i ≤ j))) ta tb) (f2 dLe fa fb) := de_cmp op_le adCmpI ha hb (nomark _)
theorem de_gt (ha : DE X K G a ta fa) (hb : DE X K G b tb fb) : DE X K G (.Compare a [.Gt] [b] pos) (tOp (rI0 fun i j => .bl (decide (j < i))) ta tb) (f2 dGt fa fb) := de_cmp op_gt adCmpI ha hb (nomark _)
theorem de_ge (ha : DE X K G a ta fa) (hb : DE X K G b tb fb) : DE X K G (.Compare a [.GtE] [b] pos) (tOp (rI0 fun i j => .bl (decide (j ≤ i))) ta tb) (f2 dGe fa fb) := de_cmp op_ge adCmpI ha hb (nomark _)
theorem de_isN (ha : DE X K G a ta fa) (hb : DE X K G b tb fb) : DE X K G (.Compare a [.Is] [b] pos) (tOp (fun x y H Q => y = .non ∧ Q (.bl (decide (x = .non))) H) ta tb) (f2 (dIsN true) fa fb) := de_cmp op_isN adIsN ha hb (nomark _)
theorem de_notN (ha : DE X K G a ta fa) (hb : DE X K G b tb fb) : DE X K G (.Compare a [.IsNot] [b] pos) (tOp (fun x y H Q => y = .non ∧ Q (.bl (!decide (x = .non))) H) ta tb) (f2 (dIsN false) fa fb) := de_cmp op_notN adNotN ha hb (nomark _)
theorem de_in (hr : Room (k + 1) X.A) (ha : DE X K G a ta fa) (hb : DE X K G b tb fb) (hm : behindInMarks .In b = false := by rfl) (hK : X.K = K := by rfl) : DE X K G (.Compare a [.In] [b] pos) (tOp (rInA K) ta tb) (f2 dIn fa fb) := by
  subst hK
  exact de_cmp (opIn hr) adIn ha hb hm
theorem de_notIn (hr : Room (k + 1) X.A) (ha : DE X K G a ta fa) (hb : DE X K G b tb fb) (hm : behindInMarks .NotIn b = false := by rfl) (hK : X.K = K := by rfl) : DE X K G (.Compare a [.NotIn] [b] pos) (tOp (rNotInA K) ta tb) (f2 dNotIn fa fb) := by
  subst hK
  exact de_cmp (opNotIn hr) adNotIn ha hb hm
/-- -x -/
def f1 {G : Gh} (p : PyData → Option PyData) (f : Fe G) : Fe G := fun ρ g => mb (f ρ g) fun x g => mp (p x) g
def dNeg : PyData → Option PyData
  | .int i => some (.int (-i))
  | _ => none
theorem de_neg (ha : DE X K G a ta fa) : DE X K G (.UnaryOp .USub a pos) (tUn (rU fun i => .int (-i)) ta) (f1 dNeg fa) := ⟨pe_un un_neg ha.pe, fun σ H S ρ g d g' Q c hf q => by
  obtain ⟨x, g1, h1, hf⟩ := mb_inv hf
  obtain ⟨h3, rfl⟩ := mp_inv hf
  refine ha.ad σ H S ρ g x g' _ c h1 fun v S1 H1 t1 c1 r1 => ?_
  cases r1 <;> first | (cases h3; done) | skip
  cases h3
  exact ⟨_, rfl, q _ S1 H1 t1 c1 (.int _)⟩⟩
/-- xs[i], t[i], s[i] -/
def dIx : PyData → PyData → Option PyData
  | .list ds, .int i => atI ds i
  | .tuple ds, .int i => atI ds i
  | .str z, .int i => if z.length ≤ sizeLine then (atI z.cps.toList i).map fun c => .str ⟨#[c]⟩ else none
  | _, _ => none
theorem RL.atI {K : PySem.W.Frag} {S : Hp} {xs : List V} {ds : List PyData} (r : RL K S xs ds) {i : Int} {d : PyData} (h : L2.atI ds i = some d) : ∃ v, L2.atI xs i = some v ∧ R K S v d := by
  unfold L2.atI at h ⊢
  rw [r.length]
  simp only [Option.bind_eq_some_iff] at h ⊢
  obtain ⟨j, h1, h2⟩ := h
  obtain ⟨u, h3, h4⟩ := r.get h2
  exact ⟨u, ⟨j, h1, h3⟩, h4⟩
theorem adIx {K : PySem.W.Frag} : AdR K (L2.rIx K) dIx := fun S H x y dx dy d Q sh rx ry h q => by
  cases rx <;> cases ry <;> first | (cases h; done) | skip
  · unfold dIx at h
    simp only at h
    split at h
    · rename_i hl
      simp only [Option.map_eq_some_iff] at h
      obtain ⟨c, h, rfl⟩ := h
      exact .inr (.inr ⟨_, _, c, rfl, rfl, hl, h, q _ S H .refl (.str _)⟩)
    · cases h
  · rename_i a xs ds s l r i
    obtain ⟨v, h1, h2⟩ := r.atI h
    exact .inl ⟨a, xs, i, v, rfl, rfl, sh.seq s, h1, q _ S H .refl h2⟩
  · rename_i a xs ds s l r i
    obtain ⟨v, h1, h2⟩ := r.atI h
    exact .inr (.inl ⟨a, xs, i, v, rfl, rfl, (s.mono sh).T, h1, q _ S H .refl h2⟩)
theorem de_ix (ha : DE X K G a ta fa) (hb : DE X K G b tb fb) (hs : PlainIx b := by exact fun _ _ => rfl) (hK : X.K = K := by rfl) : DE X K G (.Subscript a b pos) (tOp (L2.rIx K) ta tb) (f2 dIx fa fb) := by
  subst hK
  exact ⟨pe_ix ix_seq ha.pe hb.pe hs, ad_2 adIx ha.ad hb.ad⟩
/-- d[k] of a dict -/
def dKey : PyData → Option Key
  | .int i => some (.inl i)
  | .str x => some (.inr x)
  | _ => none
def kdEq : PyData → Key → Bool
  | .int i, .inl j => i == j
  | .str x, .inr y => x == y
  | _, _ => false
theorem kdEq_iff {k y : Key} : kdEq (kD k) y = decide (k = y) := by
  rcases k with i | x <;> rcases y with j | z <;> simp [kD, kdEq]
  · exact Bool.beq_eq_decide_eq i j
  · exact Bool.beq_eq_decide_eq x z
def kget : List (PyData × PyData) → Key → Option PyData
  | [], _ => none
  | (k, d) :: r, y => if kdEq k y = true then some d else kget r y
theorem RK.get {K : PySem.W.Frag} {S : Hp} : ∀ {kvs : List (Key × V)} {ds : List (PyData × PyData)} (_ : RK K S kvs ds) (y : Key), (∀ d, kget ds y = some d → ∃ v, valV kvs y = some v ∧ R K S v d) ∧ (kget ds y = none → valV kvs y = none)
  | _, _, .nil, y => ⟨fun d h => (by cases h), fun _ => rfl⟩
  | _, _, .cons (k := k) (v := v) (kvs := kvs) (d := d) (ds := ds) p q, y => by
    have ih := RK.get q y
    have hk := kdEq_iff (k := k) (y := y)
    by_cases e : k = y
    · subst e
      rw [decide_eq_true rfl] at hk
      simp only [kget, hk, if_true]
      refine ⟨fun d h => ?_, fun h => nomatch h⟩
      cases h
      exact ⟨v, by simp [valV], p⟩
    · rw [decide_eq_false e] at hk
      simp only [kget, hk, Bool.false_eq_true, if_false]
      have : valV ((k, v) :: kvs) y = valV kvs y := by simp [valV, List.find?_cons, e]
      rw [this]
      exact ih
def dGet : PyData → PyData → Option PyData
  | .dict kvs, y => (dKey y).bind fun k => kget kvs k
  | _, _ => none
theorem kV_of {K : PySem.W.Frag} {S : Hp} {y : V} {dy : PyData} {k : Key} (r : R K S y dy) (h : dKey dy = some k) : y = kV k := by
  cases r <;> first | (cases h; done) | skip
  all_goals (cases h; rfl)
theorem de_dget {k : Nat} (hr : Room k X.A) (ha : DE X K G a ta fa) (hb : DE X K G b tb fb) (hs : NoSl b := by exact fun _ _ => rfl) : DE X K G (.Subscript a b pos) (tDGet ta tb) (f2 dGet fa fb) := ⟨pe_dget (hu_of hr) ha.pe hb.pe hs, fun σ H S ρ g d g' Q c hf q => by
  obtain ⟨x, g1, h1, hf⟩ := mb_inv hf
  obtain ⟨y, g2, h2, hf⟩ := mb_inv hf
  obtain ⟨h3, rfl⟩ := mp_inv hf
  refine ha.ad σ H S ρ g x g1 _ c h1 fun v S1 H1 t1 c1 r1 => ?_
  refine hb.ad σ H1 S1 ρ g1 y _ _ c1 h2 fun w S2 H2 t2 c2 r2 => ?_
  have r1 := r1.mono t2.s
  cases r1 with
  | @dct ad kvs ds e rk =>
    simp only [dGet, Option.bind_eq_some_iff] at h3
    obtain ⟨k, h4, h5⟩ := h3
    obtain ⟨u, h6, h7⟩ := (rk.get k).1 d h5
    refine ⟨ad, u, rfl, ?_, q u S2 H2 (t1.trans t2) c2 h7⟩
    rw [kV_of r2 h4, ← h6]
    exact DGet.k (c2.sh _ _ e)
  | _ => cases h3⟩
def dInD (x y : PyData) : Option PyData := match y with
  | .dict kvs => (dKey x).map fun k => .bool (kget kvs k).isSome
  | _ => none
theorem ad_din {K : PySem.W.Frag} (n : Bool) (t : TE → TE → TE) (p : PyData → PyData → Option PyData) (ha : Ad K G ta fa) (hb : Ad K G tb fb)
    (ht : ∀ σ H Q, t ta tb σ H Q = ta σ H fun y H1 => tb σ H1 fun x H2 => ∃ a o, x = .ref a ∧ DGet H2 a y o ∧ Q (.bl (xor n o.isSome)) H2)
    (hp : ∀ x y, p x y = match y with | .dict kvs => (dKey x).map fun k => .bool (xor n (kget kvs k).isSome) | _ => none) : Ad K G (t ta tb) (f2 p fa fb) := fun σ H S ρ g d g' Q c hf q => by
  obtain ⟨x, g1, h1, hf⟩ := mb_inv hf
  obtain ⟨y, g2, h2, hf⟩ := mb_inv hf
  obtain ⟨h3, rfl⟩ := mp_inv hf
  rw [ht]
  refine ha σ H S ρ g x g1 _ c h1 fun v S1 H1 t1 c1 r1 => ?_
  refine hb σ H1 S1 ρ g1 y _ _ c1 h2 fun w S2 H2 t2 c2 r2 => ?_
  rw [hp] at h3
  cases r2 <;> first | (cases h3; done) | skip
  rename_i ad kvs ds e r
  simp only [Option.map_eq_some_iff] at h3
  obtain ⟨k, h4, h5⟩ := h3
  subst h5
  refine ⟨ad, valV kvs k, rfl, ?_, ?_⟩
  · rw [kV_of r1 h4]
    exact DGet.k (c2.sh _ _ e)
  · have : (valV kvs k).isSome = (kget ds k).isSome := by
      cases z : kget ds k with
      | none => rw [RK.get r k |>.2 z]; rfl
      | some d => obtain ⟨u, h6, _⟩ := (RK.get r k).1 d z; rw [h6]; rfl
    rw [this]
    exact q _ S2 H2 (t1.trans t2) c2 (.bl _)
theorem de_inD {k : Nat} (hr : Room k X.A) (ha : DE X K G a ta fa) (hb : DE X K G b tb fb) (hm : behindInMarks .In b = false := by rfl) : DE X K G (.Compare a [.In] [b] pos) (tDIn ta tb) (f2 dInD fa fb) := ⟨pe_cmp (pc_din (hu_of hr) ha.pe hb.pe) hm, ad_din false tDIn dInD ha.ad hb.ad (fun σ H Q => by simp [tDIn]) (fun x y => by cases y <;> simp [dInD])⟩
def dNotInD (x y : PyData) : Option PyData := match y with
  | .dict kvs => (dKey x).map fun k => .bool (!(kget kvs k).isSome)
  | _ => none
theorem de_notInD {k : Nat} (hr : Room k X.A) (ha : DE X K G a ta fa) (hb : DE X K G b tb fb) (hm : behindInMarks .NotIn b = false := by rfl) : DE X K G (.Compare a [.NotIn] [b] pos) (tDNotIn ta tb) (f2 dNotInD fa fb) := ⟨pe_cmp (pc_dnotin (hu_of hr) ha.pe hb.pe) hm, ad_din true tDNotIn dNotInD ha.ad hb.ad (fun σ H Q => by simp [tDNotIn]) (fun x y => by cases y <;> simp [dNotInD])⟩
end
end DL

set_option Elab.async false
set_option linter.all false
set_option maxRecDepth 100000
set_option maxHeartbeats 4000000
namespace DL
open PySem PySem.Spec PyProof.Rows L2
open Classical

/-! ## what is walked -/
section
variable {X : Cx} {tg : Expr}
def iSeq (K : PySem.W.Frag) (tl : TE) : TI := fun σ H R => tl σ H fun x H1 => ∃ a, x = .ref a ∧ (((∃ xs, SqL K H1 a xs) ∧ R (Itl K a) H1) ∨ ((∃ xs, SqT K H1 a xs) ∧ R (Itt K a) H1))
theorem pi_seq {l : Expr} {tl : TE} (hl : PE X l tl) : PI X tg l (iSeq X.K tl) := by
  refine ⟨fun pins s σ H R I h => ?_⟩
  refine thn (hl.run pins s σ H _ I h) fun v s1 ⟨x, H1, I1, r1, q1⟩ => ?_
  obtain ⟨a, e, q1⟩ := q1
  subst e
  cases r1
  rcases q1 with ⟨⟨xs, hq⟩, q⟩ | ⟨⟨xs, hq⟩, q⟩
  · obtain ⟨its, rv, p, hz⟩ := I1.list hq
    refine wpAny_pyIter_list p.isList ?_
    refine ⟨s1.heap.objs.size, [s1.heap.objs.size], _, _, H1, rfl, I1.kept (t' := s1.toks) fun b o e => Heap.get?_push_of_some _ e, turn_list a _, ⟨_, Heap.get?_push_size _ rfl, rfl, rfl⟩, fun b hb => ?_, q⟩
    have e : b = s1.heap.objs.size := by simpa using hb
    subst e
    exact I1.fpOk (Nat.le_refl _) (I1.hok.fresh (Nat.le_refl _))
  · obtain ⟨its, rv, p, hz⟩ := I1.tuple hq
    refine wpAny_pyIter_tuple (show s1.heap.IsTuple a its.toArray from p) ?_
    refine ⟨s1.heap.objs.size, [s1.heap.objs.size], _, _, H1, rfl, I1.kept (t' := s1.toks) fun b o e => Heap.get?_push_of_some _ e, turn_tuple a _, ⟨_, Heap.get?_push_size _ rfl, rfl, rfl⟩, fun b hb => ?_, q⟩
    have e : b = s1.heap.objs.size := by simpa using hb
    subst e
    exact I1.fpOk (Nat.le_refl _) (I1.hok.fresh (Nat.le_refl _))
end
theorem iter_list {K : PySem.W.Frag} {S : Hp} {a : Addr} {xs : List V} {ds : List PyData} (h : SqL K S a xs) (hl : ds.length ≤ sizeLine) (r : RL K S xs ds) : Iter K (Itl K a) S ds where
  go := fun i S2 H2 s1 s2 hi => by
    obtain ⟨d, hd⟩ : ∃ d, ds[i]? = some d := ⟨ds[i], List.getElem?_eq_getElem hi⟩
    obtain ⟨u, hu, _⟩ := r.get hd
    exact ⟨xs, u, s2.seq (s1.seq h), hu⟩
  stop := fun i S2 H2 s1 s2 hi => ⟨xs, s2.seq (s1.seq h), by rw [r.length]; exact hi⟩
  len := hl
  yld := fun i S2 H2 x H3 s1 s2 hi y => by
    obtain ⟨rfl, y⟩ := y
    have hx := y xs (s2.seq (s1.seq h))
    obtain ⟨d, hd, rd⟩ := r.getV hx
    exact ⟨d, S2, hd, .refl, rd.mono s1⟩
theorem iter_tup {K : PySem.W.Frag} {S : Hp} {a : Addr} {xs : List V} {ds : List PyData} (h : SqU K S a xs) (hl : ds.length ≤ sizeLine) (r : RL K S xs ds) : Iter K (Itt K a) S ds where
  go := fun i S2 H2 s1 s2 hi => by
    obtain ⟨d, hd⟩ : ∃ d, ds[i]? = some d := ⟨ds[i], List.getElem?_eq_getElem hi⟩
    obtain ⟨u, hu, _⟩ := r.get hd
    exact ⟨xs, u, ((h.mono s1).mono s2).T, hu⟩
  stop := fun i S2 H2 s1 s2 hi => ⟨xs, ((h.mono s1).mono s2).T, by rw [r.length]; exact hi⟩
  len := hl
  yld := fun i S2 H2 x H3 s1 s2 hi y => by
    obtain ⟨rfl, y⟩ := y
    have hx := y xs (((h.mono s1).mono s2).T)
    obtain ⟨d, hd, rd⟩ := r.getV hx
    exact ⟨d, S2, hd, .refl, rd.mono s1⟩
def rangeD (lo : Int) (n : Nat) : List PyData := (List.range n).map fun (i : Nat) => .int (lo + (i : Int))
theorem rangeD_len (lo : Int) (n : Nat) : (rangeD lo n).length = n := by simp [rangeD]
theorem iter_range {K : PySem.W.Frag} {S : Hp} {lo : Int} {n : Nat} (hn : n ≤ sizeLine) : Iter K (Itr lo n) S (rangeD lo n) where
  go := fun i S2 H2 s1 s2 hi => by rw [rangeD_len] at hi; exact hi
  stop := fun i S2 H2 s1 s2 hi => by rw [rangeD_len] at hi; exact hi
  len := by rw [rangeD_len]; exact hn
  yld := fun i S2 H2 x H3 s1 s2 hi y => by
    obtain ⟨rfl, rfl⟩ := y
    rw [rangeD_len] at hi
    exact ⟨.int (lo + (i : Int)), S2, by simp [rangeD, hi], .refl, .int _⟩

section
variable {X : Cx} {K : PySem.W.Frag} {G : Gh} {a b c e tg : Expr} {es : List Expr} {ta tb tc te : TE} {t u : TA} {tA tB' : TT} {pos p : Pos} {x : Str} {fa fb : Fe G} {k : Nat}
abbrev Fl (G : Gh) := En → G.T → Option (List PyData × G.T)
def dItems : PyData → Option (List PyData)
  | .list ds => some ds
  | .tuple ds => some ds
  | _ => none
def fItems {G : Gh} (f : Fe G) : Fl G := fun ρ g => mb (f ρ g) fun x g => mp (dItems x) g
theorem di_seq (h : DE X K G e te fa) (hK : X.K = K := by rfl) : DI X K G tg e (iSeq K te) (fItems fa) := by
  subst hK
  exact ⟨pi_seq h.pe, fun σ H S ρ g d g' Q c hf q => by
  obtain ⟨x, g1, h1, hf⟩ := mb_inv hf
  obtain ⟨h3, rfl⟩ := mp_inv hf
  refine h.ad σ H S ρ g x g' _ c h1 fun v S1 H1 t1 c1 r1 => ?_
  cases r1 with
  | lst s l r => cases h3; exact ⟨_, rfl, .inl ⟨⟨_, c1.sh.seq s⟩, q _ S1 H1 t1 c1 (iter_list s l r)⟩⟩
  | tup s l r => cases h3; exact ⟨_, rfl, .inr ⟨⟨_, (s.mono c1.sh).T⟩, q _ S1 H1 t1 c1 (iter_tup s l r)⟩⟩
  | _ => cases h3⟩
def okR (j : Int) : Bool := decide (-(2 ^ 62) ≤ j ∧ j < 2 ^ 62)
def fRange1 {G : Gh} (f : Fe G) : Fl G := fun ρ g => mb (f ρ g) fun x g => match x with
  | .int j => if okR j = true ∧ j.toNat ≤ sizeLine then some (rangeD 0 j.toNat, g) else none
  | _ => none
theorem di_range1 (hg : Gl X "range") (hm : X.mg "range" = none) (h : DE X K G a ta fa) (hs1 : starEach [a] X.env = (false, eval a X.env) :: starEach [] X.env := by rfl) (hs : starEach [a] X.env = [(false, eval a X.env)] := by rfl) : DI X K G tg (.Call (.Name "range" p) [a] [] pos) (iRng1 (tCons ta tNil)) (fRange1 fa) :=
  ⟨pi_range1 hg hm (pa_cons h.pe pa_nil hs1) hs, fun σ H S ρ g d g' Q c hf q => by
  obtain ⟨x, g1, h1, hf⟩ := mb_inv hf
  refine h.ad σ H S ρ g x g1 _ c h1 fun v S1 H1 t1 c1 r1 => ?_
  cases r1 with
  | int j =>
    simp only at hf
    split at hf
    · rename_i hc
      cases hf
      have h2 := of_decide_eq_true hc.1
      exact ⟨j, rfl, h2.1, h2.2, q _ S1 H1 t1 c1 (iter_range hc.2)⟩
    · cases hf
  | _ => cases hf⟩
def fRange2 {G : Gh} (f h : Fe G) : Fl G := fun ρ g => mb (f ρ g) fun x g => mb (h ρ g) fun y g => match x, y with
  | .int i, .int j => if okR i = true ∧ okR j = true ∧ (j - i).toNat ≤ sizeLine then some (rangeD i (j - i).toNat, g) else none
  | _, _ => none
theorem di_range2 (hg : Gl X "range") (hm : X.mg "range" = none) (h : DE X K G a ta fa) (h' : DE X K G b tb fb) (hs1 : starEach [b] X.env = (false, eval b X.env) :: starEach [] X.env := by rfl) (hs0 : starEach [a, b] X.env = (false, eval a X.env) :: starEach [b] X.env := by rfl) (hs : starEach [a, b] X.env = [(false, eval a X.env), (false, eval b X.env)] := by rfl) (hs2 : starEach [b] X.env = [(false, eval b X.env)] := by rfl) :
    DI X K G tg (.Call (.Name "range" p) [a, b] [] pos) (iRng2 (tCons ta (tCons tb tNil))) (fRange2 fa fb) :=
  ⟨pi_range2 hg hm (pa_cons h.pe (pa_cons h'.pe pa_nil hs1) hs0) hs hs2, fun σ H S ρ g d g' Q c hf q => by
  obtain ⟨x, g1, h1, hf⟩ := mb_inv hf
  obtain ⟨y, g2, h2, hf⟩ := mb_inv hf
  refine h.ad σ H S ρ g x g1 _ c h1 fun v S1 H1 t1 c1 r1 => ?_
  refine h'.ad σ H1 S1 ρ g1 y g2 _ c1 h2 fun w S2 H2 t2 c2 r2 => ?_
  cases r1 with
  | int i =>
    cases r2 with
    | int j =>
      simp only at hf
      split at hf
      · rename_i hc
        cases hf
        have h3 := of_decide_eq_true hc.1
        have h4 := of_decide_eq_true hc.2.1
        exact ⟨i, j, rfl, ⟨h3.1, h3.2, h4.1, h4.2⟩, q _ S2 H2 (t1.trans t2) c2 (iter_range hc.2.2)⟩
      · cases hf
    | _ => cases hf
  | _ => cases hf⟩

/-! ## comprehensions -/
def wipeE : List Nat → En → En
  | [], ρ => ρ
  | v :: vs, ρ => (wipeE vs ρ).set v .no
def compF {T : Type} (bd : PyData → En → Option En) (ft : En → T → Option (Bool × T)) (fe : En → T → Option (PyData × T)) (ρ : En) : List PyData → T → Option (List PyData × T)
  | [], g => some ([], g)
  | d :: ds, g => match bd d ρ with
    | none => none
    | some ρ1 => mb (ft ρ1 g) fun b g => if b = true then mb (fe ρ1 g) fun y g => mb (compF bd ft fe ρ ds g) fun ys g => some (y :: ys, g) else compF bd ft fe ρ ds g
def fComp {G : Gh} (src : Fl G) (bd : PyData → En → Option En) (ft : Ft G) (fe : Fe G) (vs : List Nat) : Fl G := fun ρ g => mb (src ρ g) fun ds g => compF bd ft fe (wipeE vs ρ) ds g
def fYes {G : Gh} : Ft G := fun _ g => some (true, g)
theorem EnvR.wipe {K : PySem.W.Frag} {S : Hp} {σ : St} {ρ : En} (h : EnvR K S σ ρ) : ∀ vs : List Nat, EnvR K S (L2.wipe σ vs) (wipeE vs ρ)
  | [] => h
  | v :: vs => by
    have ih := EnvR.wipe h vs
    refine ⟨by show (List.set _ _ _).length = (List.set _ _ _).length; simp [ih.1], fun i x hx hn => ?_⟩
    rcases set_get hx with ⟨rfl, hl, rfl⟩ | ⟨e, hx⟩
    · exact absurd rfl hn
    · obtain ⟨u, a, b⟩ := ih.2 i x hx hn
      exact ⟨u, by show (List.set _ _ _)[i]? = _; rw [List.getElem?_set_ne (Ne.symm e)]; exact a, b⟩
theorem set_set {α : Type} (l : List α) (i j : Nat) (x y : α) (h : i ≠ j) : (l.set i x).set j y = (l.set j y).set i x := List.set_comm x y h
theorem wipe_set_in {σ : St} {i : Nat} {x : Option V} : ∀ {vs : List Nat}, i ∈ vs → L2.wipe (σ.set i x) vs = L2.wipe σ vs
  | [], h => by simp at h
  | v :: vs, h => by
    have key : ∀ (ws : List Nat) (σ : St), (L2.wipe (σ.set i x) ws).set i none = (L2.wipe σ ws).set i none := by
      intro ws
      induction ws with
      | nil => intro σ; show (σ.set i x).set i none = σ.set i none; rw [List.set_set]
      | cons w ws ih =>
        intro σ
        show ((L2.wipe (σ.set i x) ws).set w none).set i none = ((L2.wipe σ ws).set w none).set i none
        by_cases e : w = i
        · subst e; rw [List.set_set, List.set_set]; exact ih σ
        · rw [List.set_comm _ _ e, List.set_comm _ _ e, ih σ]
    by_cases e : i ∈ vs
    · show (L2.wipe (σ.set i x) vs).set v none = (L2.wipe σ vs).set v none
      rw [wipe_set_in e]
    · have : i = v := by simpa [e] using h
      subst this
      exact key vs σ
theorem wipe_wipe (σ : St) : ∀ vs : List Nat, L2.wipe (L2.wipe σ vs) vs = L2.wipe σ vs := by
  have key : ∀ (us vs : List Nat) (σ : St), (∀ i ∈ us, i ∈ vs) → L2.wipe (L2.wipe σ us) vs = L2.wipe σ vs := by
    intro us
    induction us with
    | nil => intro vs σ _; rfl
    | cons u us ih =>
      intro vs σ h
      show L2.wipe ((L2.wipe σ us).set u none) vs = _
      rw [wipe_set_in (h u List.mem_cons_self)]
      exact ih vs σ fun i hi => h i (List.mem_cons_of_mem _ hi)
  exact fun vs => key vs vs σ fun i hi => hi
theorem Upd.wipe {K : PySem.W.Frag} {S : Hp} {is vs : List Nat} {σ σ1 : St} {ρ ρ1 : En} (h : ∀ i ∈ is, i ∈ vs) (u : Upd K S is σ ρ σ1 ρ1) : L2.wipe σ1 vs = L2.wipe σ vs := by
  induction u with
  | refl => rfl
  | set _ m r ih => rw [wipe_set_in (h _ m)]; exact ih
theorem ad_comp {K : PySem.W.Frag} {is vs : List Nat} {wi : TI} {g : TG} {tt : TT} {src : Fl G} {bd : PyData → En → Option En} {ft : Ft G} {fe : Fe G} (hi : AdI K G wi src) (hg : AdG K is g bd) (his : subO is vs = true) (ht : AdT K G tt ft) (he : Ad K G te fe) : AdN K G (tLc wi g tt te vs) (fComp src bd ft fe vs) := fun σ H S ρ gg d g' Q c e q => by
  obtain ⟨items, g1, h1, e⟩ := mb_inv e
  refine hi σ H S ρ gg items g1 _ c h1 fun J S1 H1 t1 c1 it => ?_
  intro D hD
  have nd : ¬ G.dom D := fun z => c1.gh D z hD
  have sD : S1 D = none := c1.sh.free hD
  have neD : ∀ b, H1 b ≠ none → b ≠ D := fun b h z => by subst z; exact h hD
  have cw : Ctx K G S1 H1 (L2.wipe σ vs) (wipeE vs ρ) g1 := ⟨c1.sh, c1.env.wipe vs, c1.gok, c1.gs, c1.gh⟩
  obtain ⟨t2, c2⟩ := cw.ext (.junk (p := D) (o := .lst []) .refl hD)
  refine ⟨fun i m H => i ≤ items.length ∧ m = items.length - i ∧ ∃ S2 g2 acc dn rs, Stp G S1 H1 S2 H ∧ Ctx K G S2 H (L2.wipe σ vs) (wipeE vs ρ) g2 ∧ S2 D = none ∧ H D = some (.lst acc) ∧ RL K S2 acc dn ∧ dn.length ≤ i ∧ compF bd ft fe (wipeE vs ρ) (items.drop i) g2 = some (rs, g') ∧ dn ++ rs = d,
    ⟨_, Nat.zero_le _, rfl, S1, g1, [], [], d, t2, c2, sD, upd_same, .nil, Nat.le_refl _, e, rfl⟩, ?_⟩
  rintro i m H2 ⟨hl, rfl, S2, g2, acc, dn, rs, t3, c3, s3, h3, r3, l3, e3, ed⟩
  by_cases hlt : i < items.length
  · refine .inr ⟨it.go i S2 H2 t3.s c3.sh hlt, ?_⟩
    obtain ⟨x, hx⟩ : ∃ x, items[i]? = some x := ⟨items[i], List.getElem?_eq_getElem hlt⟩
    have hdr : items.drop i = x :: items.drop (i + 1) := by
      obtain ⟨h1, h2⟩ := List.getElem?_eq_some_iff.mp hx
      rw [← h2]; exact List.drop_eq_getElem_cons h1
    rw [hdr] at e3
    unfold compF at e3
    refine ⟨fun H => ∃ S2 g2 acc dn rs, Stp G S1 H1 S2 H ∧ Ctx K G S2 H (L2.wipe σ vs) (wipeE vs ρ) g2 ∧ S2 D = none ∧ H D = some (.lst acc) ∧ RL K S2 acc dn ∧ dn.length ≤ i + 1 ∧ compF bd ft fe (wipeE vs ρ) (items.drop (i + 1)) g2 = some (rs, g') ∧ dn ++ rs = d, fun H' h => ⟨items.length - (i + 1), by omega, by omega, rfl, h⟩, fun v H' y => ?_⟩
    obtain ⟨x', S3, hx', ex, rx⟩ := it.yld i S2 H2 v H' t3.s c3.sh hlt y
    rw [hx] at hx'
    cases hx'
    obtain ⟨t4, c4⟩ := c3.ext ex
    cases hb : bd x (wipeE vs ρ) with
    | none => rw [hb] at e3; cases e3
    | some ρ1 =>
      rw [hb] at e3
      simp only at e3
      refine hg S3 H' v x (L2.wipe σ vs) (wipeE vs ρ) ρ1 _ c4.sh rx hb fun σ1 u1 => ?_
      refine ⟨(u1.wipe (subO_mem his)).trans (wipe_wipe σ vs), ?_⟩
      have c5 := c4.sets u1
      have D4 : ∀ {Sa Ha : Hp}, Stp G S3 H' Sa Ha → Sa D = none ∧ Ha D = some (.lst acc) := fun {Sa Ha} t => by
        have hd : H' D = some (.lst acc) := t4.k D _ nd h3
        exact ⟨t.n D (by rw [hd]; exact fun z => nomatch z) (t4.n D (by rw [h3]; exact fun z => nomatch z) s3), t.k D _ nd hd⟩
      obtain ⟨b, g3, hb3, e3⟩ := mb_inv e3
      refine ht σ1 H' S3 ρ1 g2 b g3 _ c5 hb3 fun S4 H4 t5 c6 => ?_
      cases b with
      | false =>
        refine iteF ?_
        simp only [Bool.false_eq_true, if_false] at e3
        obtain ⟨d1, d2⟩ := D4 t5
        exact ⟨S4, g3, acc, dn, rs, t3.trans (t4.trans t5), ⟨c6.sh, c3.env.mono (t4.s.trans t5.s), c6.gok, c6.gs, c6.gh⟩, d1, d2, r3.mono (t4.s.trans t5.s), by omega, e3, ed⟩
      | true =>
        refine iteT ?_
        simp only [if_true] at e3
        obtain ⟨y, g4, hy, e3⟩ := mb_inv e3
        obtain ⟨ys, g5, hys, e3⟩ := mb_inv e3
        cases e3
        refine he σ1 H4 S4 ρ1 g3 y g4 _ c6 hy fun w S5 H5 t6 c7 rw => ?_
        obtain ⟨d1, d2⟩ := D4 (t5.trans t6)
        have hz : acc.length < sizeLine := by rw [r3.length]; have := it.len; omega
        refine ⟨acc, d2, hz, S5, g4, acc ++ [w], dn ++ [y], ys, ?_, ?_, d1, upd_same, (r3.mono (t4.s.trans (t5.s.trans t6.s))).append (.cons rw .nil), by simp; omega, hys, by simp [ed]⟩
        · have t7 := t3.trans (t4.trans (t5.trans t6))
          refine ⟨t7.s, fun b o h q => ?_, t7.n, fun b h => ?_⟩
          · rw [upd_ne (neD b (by rw [q]; exact fun z => nomatch z))]; exact t7.k b o h q
          · rw [upd_ne (neD b h)]; exact t7.p b h
        · refine ⟨fun b o q => ?_, c3.env.mono (t4.s.trans (t5.s.trans t6.s)), G.loc _ _ _ (fun b hb => upd_ne fun z => by subst z; exact nd hb) c7.gok, c7.gs, fun b hb => ?_⟩
          · rw [upd_ne fun z => by subst z; rw [d1] at q; cases q]; exact c7.sh b o q
          · rw [upd_ne fun z => by subst z; exact nd hb]; exact c7.gh b hb
  · have : i = items.length := by omega
    subst this
    rw [List.drop_length] at e3
    cases e3
    rw [List.append_nil] at ed
    subst ed
    refine .inl ⟨it.stop _ S2 H2 t3.s c3.sh (Nat.le_refl _), ?_⟩
    have hH : H D = none := by
      cases z : H D with
      | none => rfl
      | some o => exact absurd hD (t1.p D (by rw [z]; exact fun z => nomatch z))
    exact q D acc S2 H2 (t1.trans t3) ⟨c3.sh, c1.env.mono t3.s, c3.gok, c3.gs, c3.gh⟩ hH s3 h3 r3 (Nat.le_trans l3 it.len)
structure DTs (X : Cx) (K : PySem.W.Frag) (G : Gh) (es : List Expr) (t : TT) (f : Ft G) : Prop where
  pe : PTs X es t
  ad : AdT K G t f
theorem dts_nil : DTs X K G [] tYes fYes := ⟨pts_nil, fun σ H S ρ g d g' Q c e q => by cases e; exact q S H (Stp.refl _ _ _) c⟩
theorem dts_one {f : Ft G} (h : DT X K G c tA f) : DTs X K G [c] tA f := ⟨pts_one h.pe, h.ad⟩
theorem dn_lc {iter : Expr} {ifs : List Expr} {scope : Scope} {own : List (Str × Nat)} {wi : TI} {g : TG} {tt : TT} {src : Fl G} {bd : PyData → En → Option En} {ft : Ft G} {fe : Fe G} {is : List Nat} (hc : X.calm = true) (hN : X.N.Nodup) (hi : DI X K G tg iter wi src) (ok : BlkOk X.N X.env.scope scope own)
    (hg : ∀ (s : Shared) (H : Hp) (C : Addr) (cl : List (Str × Addr)) (fp : List Addr), DG (X.blk s H scope (compEnvC scope cl C X.env) fp) K is tg g bd)
    (ht : ∀ (s : Shared) (H : Hp) (C : Addr) (cl : List (Str × Addr)) (fp : List Addr), DTs (X.blk s H scope (compEnvC scope cl C X.env) fp) K G ifs tt ft)
    (he : ∀ (s : Shared) (H : Hp) (C : Addr) (cl : List (Str × Addr)) (fp : List Addr), DE (X.blk s H scope (compEnvC scope cl C X.env) fp) K G e te fe) (his : subO is (own.map (·.2)) = true := by rfl) (hs : ∀ x, foldedSetIterable iter X.env x = pure x := by intro _; rfl) :
    DN X K G (.ListComp e [⟨tg, iter, ifs, 0⟩] scope pos) (tLc wi g tt te (own.map (·.2))) (fComp src bd ft fe (own.map (·.2))) :=
  ⟨pe_lc hc hN hi.pe ok (fun s H C cl fp => (hg s H C cl fp).pe) (fun s H C cl fp => (ht s H C cl fp).pe) (fun s H C cl fp => (he s H C cl fp).pe) hs,
   ad_comp hi.ad (hg X.s_0 (fun _ => none) 0 [] []).ad his (ht X.s_0 (fun _ => none) 0 [] []).ad (he X.s_0 (fun _ => none) 0 [] []).ad⟩
end
end DL

set_option Elab.async false
set_option linter.all false
set_option maxRecDepth 100000
set_option maxHeartbeats 4000000
namespace DL
open PySem PySem.Spec PyProof.Rows L2
open Classical

/-! ## built-in calls by data -/
theorem rl1 {K : PySem.W.Frag} {S : Hp} {xs : List V} {d : PyData} (r : RL K S xs [d]) : ∃ v, xs = [v] ∧ R K S v d := by
  cases r with
  | cons p q => cases q; exact ⟨_, rfl, p⟩
theorem rl2 {K : PySem.W.Frag} {S : Hp} {xs : List V} {d e : PyData} (r : RL K S xs [d, e]) : ∃ v w, xs = [v, w] ∧ R K S v d ∧ R K S w e := by
  cases r with
  | cons p q => obtain ⟨w, rfl, h⟩ := rl1 q; exact ⟨_, w, rfl, p, h⟩
def d1 (f : PyData → Option PyData) : List PyData → Option PyData
  | [x] => f x
  | _ => none
def d2 (f : PyData → PyData → Option PyData) : List PyData → Option PyData
  | [x, y] => f x y
  | _ => none
/-- len -/
def dLen1 : PyData → Option PyData
  | .list ds => some (.int ds.length)
  | .tuple ds => some (.int ds.length)
  | .str z => if z.length ≤ sizeLine then some (.int z.length) else none
  | _ => none
abbrev dLen := d1 dLen1
theorem RK.length {K : PySem.W.Frag} {S : Hp} : ∀ {v : List (Key × V)} {d : List (PyData × PyData)} (_ : RK K S v d), v.length = d.length
  | _, _, .nil => rfl
  | _, _, .cons p q => congrArg (· + 1) (RK.length q)
theorem acLen {K : PySem.W.Frag} : AdC K (fun xs H Q => ∃ x n, xs = [x] ∧ LenV K x H n ∧ Q (.int n) H) dLen := fun S H xs ds d Q sh r h q => by
  match ds, h with
  | [x], h =>
    obtain ⟨v, rfl, rx⟩ := rl1 r
    replace h : dLen1 x = some d := h
    cases rx with
    | lst s l rl => cases h; exact ⟨_, _, rfl, .inl ⟨_, sh.seq s, rfl⟩, by rw [rl.length]; exact q _ S H .refl (.int _)⟩
    | tup s l rl => cases h; exact ⟨_, _, rfl, .inr ⟨_, (s.mono sh).T, rfl⟩, by rw [rl.length]; exact q _ S H .refl (.int _)⟩
    | str z =>
      unfold dLen1 at h
      simp only at h
      split at h
      · rename_i hl; cases h; exact ⟨_, _, rfl, ⟨hl, rfl⟩, q _ S H .refl (.int _)⟩
      · cases h
    | _ => cases h
def dAbs1 : PyData → Option PyData
  | .int i => some (.int (if i < 0 then -i else i))
  | _ => none
theorem acAbs {K : PySem.W.Frag} : AdC K (fun xs H Q => ∃ i, xs = [.int i] ∧ Q (.int (if i < 0 then -i else i)) H) (d1 dAbs1) := fun S H xs ds d Q sh r h q => by
  match ds, h with
  | [x], h =>
    obtain ⟨v, rfl, rx⟩ := rl1 r
    replace h : dAbs1 x = some d := h
    cases rx with
    | int i => cases h; exact ⟨_, rfl, q _ S H .refl (.int _)⟩
    | _ => cases h
def dInt1 : PyData → Option PyData
  | .int i => some (.int i)
  | .bool k => some (.int (if k then 1 else 0))
  | _ => none
theorem acInt {K : PySem.W.Frag} : AdC K (fun xs H Q => (∃ i, xs = [.int i] ∧ Q (.int i) H) ∨ ∃ k, xs = [.bl k] ∧ Q (.int (if k then 1 else 0)) H) (d1 dInt1) := fun S H xs ds d Q sh r h q => by
  match ds, h with
  | [x], h =>
    obtain ⟨v, rfl, rx⟩ := rl1 r
    replace h : dInt1 x = some d := h
    cases rx with
    | int i => cases h; exact .inl ⟨_, rfl, q _ S H .refl (.int _)⟩
    | bl k => cases h; exact .inr ⟨_, rfl, q _ S H .refl (.int _)⟩
    | _ => cases h
def dMax2 : PyData → PyData → Option PyData
  | .int i, .int j => some (.int (if j > i then j else i))
  | _, _ => none
def dMin2 : PyData → PyData → Option PyData
  | .int i, .int j => some (.int (if j < i then j else i))
  | _, _ => none
theorem acMax2 {K : PySem.W.Frag} : AdC K (fun xs H Q => ∃ i j, xs = [.int i, .int j] ∧ Q (.int (if j > i then j else i)) H) (d2 dMax2) := fun S H xs ds d Q sh r h q => by
  match ds, h with
  | [x, y], h =>
    obtain ⟨v, w, rfl, r1, r2⟩ := rl2 r
    replace h : dMax2 x y = some d := h
    cases r1 <;> cases r2 <;> first | (cases h; done) | skip
    cases h; exact ⟨_, _, rfl, q _ S H .refl (.int _)⟩
theorem acMin2 {K : PySem.W.Frag} : AdC K (fun xs H Q => ∃ i j, xs = [.int i, .int j] ∧ Q (.int (if j < i then j else i)) H) (d2 dMin2) := fun S H xs ds d Q sh r h q => by
  match ds, h with
  | [x, y], h =>
    obtain ⟨v, w, rfl, r1, r2⟩ := rl2 r
    replace h : dMin2 x y = some d := h
    cases r1 <;> cases r2 <;> first | (cases h; done) | skip
    cases h; exact ⟨_, _, rfl, q _ S H .refl (.int _)⟩
/-- tuple(x) -/
def dTuple1 : PyData → Option PyData
  | .list ds => some (.tuple ds)
  | .tuple ds => some (.tuple ds)
  | _ => none
theorem acTuple {K : PySem.W.Frag} : AdC K (fun xs H Q => ∃ p ys, xs = [.ref p] ∧ ((SqL K H p ys ∧ ∀ (l : Addr) (o : Obj), H l = none → o.dict = none → Q (.ref l) (upd H l (.frz o (.tup ys)))) ∨ (SqT K H p ys ∧ Q (.ref p) H))) (d1 dTuple1) := fun S H xs ds d Q sh r h q => by
  match ds, h with
  | [x], h =>
    obtain ⟨v, rfl, rx⟩ := rl1 r
    replace h : dTuple1 x = some d := h
    cases rx with
    | lst s l rl => cases h; exact ⟨_, _, rfl, .inl ⟨sh.seq s, fun p o hp ho => q _ _ _ (.new .refl hp) (.tup (.inl ⟨o, upd_same, ho⟩) l (rl.mono (same_new (sh.free hp))))⟩⟩
    | tup s l rl => cases h; exact ⟨_, _, rfl, .inr ⟨(s.mono sh).T, q _ S H .refl (.tup s l rl)⟩⟩
    | _ => cases h
/-- all, any, sum, max, min of a list -/
def allB : List PyData → Option (List Bool)
  | [] => some []
  | .bool b :: r => (allB r).map (b :: ·)
  | _ :: _ => none
def allI : List PyData → Option (List Int)
  | [] => some []
  | .int b :: r => (allI r).map (b :: ·)
  | _ :: _ => none
theorem RL.bools {K : PySem.W.Frag} {S : Hp} : ∀ {xs : List V} {ds : List PyData} {bs : List Bool} (_ : RL K S xs ds), allB ds = some bs → xs = bs.map V.bl
  | _, _, _, .nil, h => by cases h; rfl
  | _, _, _, .cons (.bl b) q, h => by
    simp only [allB, Option.map_eq_some_iff] at h
    obtain ⟨bs, h, rfl⟩ := h
    rw [RL.bools q h]; rfl
  | _, _, _, .cons .non q, h => by cases h
  | _, _, _, .cons (.int _) q, h => by cases h
  | _, _, _, .cons (.str _) q, h => by cases h
  | _, _, _, .cons (.lst _ _ _) q, h => by cases h
  | _, _, _, .cons (.tup _ _ _) q, h => by cases h
  | _, _, _, .cons (.dct _ _) q, h => by cases h
theorem RL.ints {K : PySem.W.Frag} {S : Hp} : ∀ {xs : List V} {ds : List PyData} {bs : List Int} (_ : RL K S xs ds), allI ds = some bs → xs = bs.map V.int
  | _, _, _, .nil, h => by cases h; rfl
  | _, _, _, .cons (.int b) q, h => by
    simp only [allI, Option.map_eq_some_iff] at h
    obtain ⟨bs, h, rfl⟩ := h
    rw [RL.ints q h]; rfl
  | _, _, _, .cons .non q, h => by cases h
  | _, _, _, .cons (.bl _) q, h => by cases h
  | _, _, _, .cons (.str _) q, h => by cases h
  | _, _, _, .cons (.lst _ _ _) q, h => by cases h
  | _, _, _, .cons (.tup _ _ _) q, h => by cases h
  | _, _, _, .cons (.dct _ _) q, h => by cases h
theorem RL.ofInts {K : PySem.W.Frag} {S : Hp} : ∀ (ns : List Int), RL K S (ns.map V.int) (ns.map PyData.int)
  | [] => .nil
  | n :: ns => .cons (.int n) (RL.ofInts ns)
def dAll1 : PyData → Option PyData
  | .list ds => (allB ds).map fun bs => .bool (bs.all id)
  | _ => none
def dAny1 : PyData → Option PyData
  | .list ds => (allB ds).map fun bs => .bool (bs.any id)
  | _ => none
def dSum1 : PyData → Option PyData
  | .list ds => (allI ds).map fun bs => .int bs.sum
  | _ => none
theorem acAll {K : PySem.W.Frag} : AdC K (rAll K) (d1 dAll1) := fun S H xs ds d Q sh r h q => by
  match ds, h with
  | [x], h =>
    obtain ⟨v, rfl, rx⟩ := rl1 r
    replace h : dAll1 x = some d := h
    cases rx with
    | lst s l rl =>
      simp only [dAll1, Option.map_eq_some_iff] at h
      obtain ⟨bs, hb, rfl⟩ := h
      exact ⟨_, bs, rfl, by rw [← rl.bools hb]; exact sh.seq s, q _ S H .refl (.bl _)⟩
    | _ => cases h
theorem acAny {K : PySem.W.Frag} : AdC K (rAny K) (d1 dAny1) := fun S H xs ds d Q sh r h q => by
  match ds, h with
  | [x], h =>
    obtain ⟨v, rfl, rx⟩ := rl1 r
    replace h : dAny1 x = some d := h
    cases rx with
    | lst s l rl =>
      simp only [dAny1, Option.map_eq_some_iff] at h
      obtain ⟨bs, hb, rfl⟩ := h
      exact ⟨_, bs, rfl, by rw [← rl.bools hb]; exact sh.seq s, q _ S H .refl (.bl _)⟩
    | _ => cases h
theorem acSum {K : PySem.W.Frag} : AdC K (rSum K) (d1 dSum1) := fun S H xs ds d Q sh r h q => by
  match ds, h with
  | [x], h =>
    obtain ⟨v, rfl, rx⟩ := rl1 r
    replace h : dSum1 x = some d := h
    cases rx with
    | lst s l rl =>
      simp only [dSum1, Option.map_eq_some_iff] at h
      obtain ⟨bs, hb, rfl⟩ := h
      exact ⟨_, bs, rfl, by rw [← rl.ints hb]; exact sh.seq s, q _ S H .refl (.int _)⟩
    | _ => cases h
/-- calls that make a new list -/
def AdCN (K : PySem.W.Frag) (r : List V → Hp → VK → Prop) (p : List PyData → Option (List PyData)) : Prop :=
  ∀ (S H : Hp) (xs : List V) (ds : List PyData) (d : List PyData) (Q : VK), Same S H → RL K S xs ds → p ds = some d → (∀ l vs, H l = none → RL K S vs d → d.length ≤ sizeLine → Q (.ref l) (upd H l (.lst vs))) → r xs H Q
section
variable {X : Cx} {K : PySem.W.Frag} {G : Gh} {a b c e : Expr} {es : List Expr} {ta tb tc te : TE} {t u : TA} {tA tB' : TT} {pos p : Pos} {x : Str} {fa fb : Fe G} {k : Nat}
def fB1N {G : Gh} (p : List PyData → Option (List PyData)) (f : Fa G) : Fl G := fun ρ g => mb (f ρ g) fun as g => match agD as with
  | some ds => mp (p ds) g
  | none => none
theorem ad_new {K : PySem.W.Frag} {S H S1 H1 : Hp} {σ : St} {ρ : En} {g g1 : G.T} {l : Addr} {vs : List V} (c : Ctx K G S H σ ρ g) (t1 : Stp G S H S1 H1) (c1 : Ctx K G S1 H1 σ ρ g1) (hl : H1 l = none) :
    Stp G S H S1 (upd H1 l (.lst vs)) ∧ Ctx K G S1 (upd H1 l (.lst vs)) σ ρ g1 ∧ H l = none ∧ S1 l = none := by
  obtain ⟨t2, c2⟩ := c1.ext (.junk (o := .lst vs) .refl hl)
  refine ⟨t1.trans t2, c2, ?_, c1.sh.free hl⟩
  cases z : H l with
  | none => rfl
  | some o => exact absurd hl (t1.p l (by rw [z]; exact fun z => nomatch z))
theorem ad_cbN {K : PySem.W.Frag} {r : List V → Hp → VK → Prop} {p : List PyData → Option (List PyData)} {f : Fa G} (hr : AdCN K r p) (h : AdA K G t f) : AdN K G (tCB r t) (fB1N p f) := fun σ H S ρ g d g' Q c e q => by
  obtain ⟨as, g1, h1, e⟩ := mb_inv e
  refine h σ H S ρ g as _ _ c h1 fun vs S1 H1 t1 c1 r1 => ?_
  split at e
  · rename_i ds hds
    obtain ⟨h3, rfl⟩ := mp_inv e
    refine hr S1 H1 vs ds d Q c1.sh (r1.data hds) h3 fun l ws hl rl hz => ?_
    obtain ⟨t2, c2, h0, s0⟩ := ad_new (vs := ws) c t1 c1 hl
    exact q l ws S1 _ t2 c2 h0 s0 upd_same rl hz
  · cases e
theorem dn_callB {id : String} {r : List V → Hp → VK → Prop} {q : List PyData → Option (List PyData)} {f : Fa G} (hr : AdCN K r q) (hc : CallR X (.builtin id) r) (hg : Gl X x) (hm : X.mg x = none) (hv : bootBuiltins x = some (.builtin id)) (ha : DA X K G (e :: es) t f) (hn : x ≠ "__name__" := by decide) (hdb : (x == ("__debug__" : Str)) = false := by decide)
    (he : starEach (e :: es) X.env = (false, eval e X.env) :: starEach es X.env := by rfl) (hpl : (backTo pos (starEach es X.env)).any (·.1) = false := by rfl) : DN X K G (.Call (.Name x p) (e :: es) [] pos) (tCB r t) (fB1N q f) :=
  ⟨pe_callB hc hg hm hv ha.pe hn hdb he hpl, ad_cbN hr ha.ad⟩
theorem dn_callTy {id : String} {r : List V → Hp → VK → Prop} {q : List PyData → Option (List PyData)} {f : Fa G} (hr : AdCN K r q) (hc : CallR X (.type id) r) (hg : Gl X x) (hm : X.mg x = none) (hv : bootBuiltins x = some (.type id)) (ha : DA X K G (e :: es) t f) (hn : x ≠ "__name__" := by decide) (hdb : (x == ("__debug__" : Str)) = false := by decide)
    (he : starEach (e :: es) X.env = (false, eval e X.env) :: starEach es X.env := by rfl) (hpl : (backTo pos (starEach es X.env)).any (·.1) = false := by rfl) : DN X K G (.Call (.Name x p) (e :: es) [] pos) (tCB r t) (fB1N q f) :=
  ⟨pe_callTy hc hg hm hv ha.pe hn hdb he hpl, ad_cbN hr ha.ad⟩
def l1 (f : PyData → Option (List PyData)) : List PyData → Option (List PyData)
  | [x] => f x
  | _ => none
theorem acList {K : PySem.W.Frag} : AdCN K (fun xs H Q => ∃ p ys, xs = [.ref p] ∧ (SqL K H p ys ∨ SqT K H p ys) ∧ ∀ l, H l = none → Q (.ref l) (upd H l (.lst ys))) (l1 dItems) := fun S H xs ds d Q sh r h q => by
  match ds, h with
  | [x], h =>
    obtain ⟨v, rfl, rx⟩ := rl1 r
    replace h : dItems x = some d := h
    cases rx with
    | lst s l rl => cases h; exact ⟨_, _, rfl, .inl (sh.seq s), fun p hp => q p _ hp rl l⟩
    | tup s l rl => cases h; exact ⟨_, _, rfl, .inr (s.mono sh).T, fun p hp => q p _ hp rl l⟩
    | _ => cases h
/-- list(range(n)) -/
def fRangeL {G : Gh} (f : Fe G) : Fl G := fRange1 f

/-- sorted of pairs of ints -/
def allP : List PyData → Option (List (Int × Int))
  | [] => some []
  | .tuple [.int i, .int j] :: r => (allP r).map ((i, j) :: ·)
  | _ :: _ => none
def pD (p : Int × Int) : PyData := .tuple [.int p.1, .int p.2]
def lexLe (p q : Int × Int) : Bool := !SrtO.lexB q p
def sortP (ps : List (Int × Int)) : List (Int × Int) := ps.mergeSort lexLe
def dSortP : PyData → Option (List PyData)
  | .list ds => (allP ds).map fun ps => (sortP ps).map pD
  | _ => none
theorem allP_eq : ∀ {ds : List PyData} {ps : List (Int × Int)}, allP ds = some ps → ds = ps.map pD
  | [], _, h => by cases h; rfl
  | d :: r, ps, h => by
    unfold allP at h
    split at h
    · rename_i heq; cases heq
    · rename_i i j r' heq
      cases heq
      simp only [Option.map_eq_some_iff] at h
      obtain ⟨qs, h, rfl⟩ := h
      rw [allP_eq h]; rfl
    · cases h
theorem lexLe_total (a b : Int × Int) : (lexLe a b || lexLe b a) = true := by
  unfold lexLe
  cases h1 : SrtO.lexB b a
  · rfl
  · cases h2 : SrtO.lexB a b
    · rfl
    · have a1 := SrtO.lexB_iff.mp h1
      have a2 := SrtO.lexB_iff.mp h2
      omega
theorem lexLe_trans (a b c : Int × Int) (h1 : lexLe a b = true) (h2 : lexLe b c = true) : lexLe a c = true := by
  unfold lexLe at *
  simp only [Bool.not_eq_true'] at *
  have a1 := SrtO.lexB_no.mp h1
  have a2 := SrtO.lexB_no.mp h2
  refine SrtO.lexB_no.mpr ?_
  omega
theorem lexLe_anti (a b : Int × Int) (h1 : lexLe a b = true) (h2 : lexLe b a = true) : a = b := by
  unfold lexLe at *
  simp only [Bool.not_eq_true'] at *
  have a1 := SrtO.lexB_no.mp h1
  have a2 := SrtO.lexB_no.mp h2
  obtain ⟨x, y⟩ := a
  obtain ⟨z, w⟩ := b
  simp only at a1 a2
  have : x = z := by omega
  have : y = w := by omega
  simp [*]
theorem sortP_sorted (ps : List (Int × Int)) : (sortP ps).Pairwise fun a b => lexLe a b = true := List.pairwise_mergeSort lexLe_trans lexLe_total ps
theorem sortP_perm (ps : List (Int × Int)) : (sortP ps).Perm ps := List.mergeSort_perm ps lexLe
theorem sorted_uniq {α : Type} {le : α → α → Prop} (anti : ∀ a b, le a b → le b a → a = b) : ∀ {l m : List α}, l.Pairwise le → m.Pairwise le → l.Perm m → (∀ x ∈ l, le x x) → l = m
  | [], m, _, _, h, _ => (List.Perm.eq_nil h.symm).symm
  | x :: l, [], _, _, h, _ => absurd h.length_eq (by simp)
  | x :: l, y :: m, hl, hm, h, hr => by
    have e : x = y := by
      rcases List.mem_cons.mp (h.mem_iff.mp (List.mem_cons_self (a := x) (l := l))) with e | hx
      · exact e
      · rcases List.mem_cons.mp (h.mem_iff.mpr (List.mem_cons_self (a := y) (l := m))) with e | hy
        · exact e.symm
        · exact anti _ _ ((List.pairwise_cons.mp hl).1 y hy) ((List.pairwise_cons.mp hm).1 x hx)
    subst e
    rw [sorted_uniq anti (List.pairwise_cons.mp hl).2 (List.pairwise_cons.mp hm).2 h.cons_inv fun x hx => hr x (List.mem_cons_of_mem _ hx)]
def rSortPD (K : PySem.W.Frag) : List V → Hp → VK → Prop := fun vs H Q => ∃ (S : Hp) (a : Addr) (xs : List V) (ps : List (Int × Int)), vs = [V.ref a] ∧ SqL K H a xs ∧ Same S H ∧ RL K S xs (ps.map pD) ∧
  ∀ ys p, RL K S ys ((sortP ps).map pD) → H p = none → Q (.ref p) (upd H p (.lst ys))
noncomputable def pairAt (h : Heap) (v : Value) : Int × Int := if q : ∃ p : Int × Int, Srt.IsPair h v p.1 p.2 then q.choose else (0, 0)
theorem isPair_inj {h : Heap} {v : Value} {i j i' j' : Int} (p : Srt.IsPair h v i j) (q : Srt.IsPair h v i' j') : i = i' ∧ j = j' := by
  obtain ⟨a, o, t, u, n, rfl, e1, e2, e3⟩ := p
  obtain ⟨a', o', t', u', n', e0, f1, f2, f3⟩ := q
  cases e0
  rw [e1] at f1
  cases f1
  rw [e3] at f3
  simp only [Data.seq.injEq] at f3
  have := f3.1
  simp at this
  exact ⟨this.1.1, this.2.1⟩
theorem pairAt_eq {h : Heap} {v : Value} {i j : Int} (p : Srt.IsPair h v i j) : pairAt h v = (i, j) := by
  unfold pairAt
  have q : ∃ p : Int × Int, Srt.IsPair h v p.1 p.2 := ⟨(i, j), p⟩
  rw [dif_pos q]
  obtain ⟨a, b⟩ := isPair_inj q.choose_spec p
  exact Prod.ext a b
theorem cr_sortPD : CallR X (.builtin "sorted") (rSortPD X.K) := by
  intro pins s σ H vs us Q I r h
  obtain ⟨S, a, xs, ps, rfl, hs, sh, rl, q⟩ := h
  obtain ⟨its, rv, hl, hz⟩ := I.list hs
  obtain ⟨u, rfl, ru⟩ := vals1 r
  obtain rfl : u = Value.ref a := ru
  -- each item: a pair
  have key : ∀ {xs : List V} {its : List Value} {ps : List (Int × Int)}, Vals xs its → RL X.K S xs (ps.map pD) → (∀ x ∈ xs, ∃ a, x = V.ref a) ∧ (∀ v ∈ its, Srt.IsPair s.heap v (pairAt s.heap v).1 (pairAt s.heap v).2 ∧ R X.K S (backV v) (pD (pairAt s.heap v))) ∧ its.map (pairAt s.heap) = ps := by
    intro xs
    induction xs with
    | nil =>
      intro its ps rv rl
      cases rv
      cases ps with
      | nil => exact ⟨fun _ h => absurd h (by simp), fun _ h => absurd h (by simp), rfl⟩
      | cons p ps => cases rl
    | cons x xs ih =>
      intro its ps rv rl
      cases ps with
      | nil => cases rl
      | cons p ps =>
        cases rv with
        | cons r1 r2 =>
          rename_i u us
          rw [List.map_cons] at rl
          cases rl with
          | cons d1 d2 =>
            obtain ⟨i1, i2, i3⟩ := ih r2 d2
            have d1' := d1
            unfold pD at d1'
            cases d1' with
            | @tup b ys _ st l rs =>
              cases r1
              obtain ⟨w1, w2, e, q1, q2⟩ := rl2 rs
              subst e
              cases q1
              cases q2
              obtain ⟨its2, r3, ⟨o, h1, h2, n, h3⟩, _⟩ := I.tuple (st.mono sh).T
              obtain ⟨u1, u2, e, ri, rj⟩ := vals2 r3
              subst e
              obtain ⟨t1, rfl⟩ := ri
              obtain ⟨t2, rfl⟩ := rj
              have hp : Srt.IsPair s.heap (.ref b) p.1 p.2 := ⟨b, o, t1, t2, n, rfl, h1, h2, h3⟩
              have e := pairAt_eq hp
              refine ⟨fun x hx => ?_, fun v hv => ?_, by rw [List.map_cons, i3, e]⟩
              · rcases List.mem_cons.mp hx with rfl | hx
                · exact ⟨b, rfl⟩
                · exact i1 x hx
              · rcases List.mem_cons.mp hv with rfl | hv
                · rw [e]; exact ⟨hp, d1⟩
                · exact i2 v hv
  obtain ⟨k1, k2, k3⟩ := key rv rl
  obtain ⟨e1, e2⟩ := refs_back rv k1
  refine SrtO.sorted_pairsO (k := pairAt s.heap) hl.isList (by rw [← rv.length]; exact hz) (fun v hv => (k2 v hv).1) fun h' d out h1 h2 kp hd hn => ?_
  have h3 : ∀ u ∈ out, ∃ a, u = Value.ref a := fun u hu => e2 u (h2.perm.mem_iff.mp hu)
  obtain ⟨n, hn⟩ := hn
  have hR : ∀ us : List Value, (∀ u ∈ us, u ∈ its) → RL X.K S (us.map backV) ((us.map (pairAt s.heap)).map pD) := by
    intro us
    induction us with
    | nil => intro _; exact .nil
    | cons u us ih => intro h; exact .cons (k2 u (h u List.mem_cons_self)).2 (ih fun v hv => h v (List.mem_cons_of_mem _ hv))
  have hS : out.map (pairAt s.heap) = sortP ps := by
    refine sorted_uniq (le := fun a b => lexLe a b = true) lexLe_anti ?_ (sortP_sorted ps) ?_ (fun x _ => ?_)
    · rw [List.pairwise_map]
      refine List.Pairwise.imp ?_ h1
      intro a b hab
      have hab : SrtO.lexB (pairAt s.heap b) (pairAt s.heap a) = false := hab
      unfold lexLe
      rw [hab]; rfl
    · refine ((h2.perm.map _).trans ?_).trans (sortP_perm ps).symm
      rw [k3]
    · have := lexLe_total x x
      simpa using this
  have hlen : out.length ≤ sizeLine := by
    have e := h2.perm.length_eq
    rw [e, ← rv.length]; exact hz
  refine ⟨.ref d, upd H d (.lst (out.map backV)), I.laid (t' := s.toks) kp hd ⟨by rw [List.length_map]; exact hlen, out, n, vals_back h3, hn⟩, rfl, q _ d ?_ (I.hok.fresh hd)⟩
  rw [← hS]
  exact hR out fun u hu => h2.perm.mem_iff.mp hu
theorem acSortP {K : PySem.W.Frag} : AdCN K (rSortPD K) (l1 dSortP) := fun S H xs ds d Q sh r h q => by
  match ds, h with
  | [x], h =>
    obtain ⟨v, rfl, rx⟩ := rl1 r
    replace h : dSortP x = some d := h
    cases rx with
    | lst s l rl =>
      simp only [dSortP, Option.map_eq_some_iff] at h
      obtain ⟨ps, hp, rfl⟩ := h
      have e := allP_eq hp
      subst e
      refine ⟨S, _, _, ps, rfl, sh.seq s, sh, rl, fun ys p ry hp => q p ys hp ry ?_⟩
      rw [List.length_map, (sortP_perm ps).length_eq]
      simpa using l
    | _ => cases h
/-! ### isinstance(x, T) -/
def tyD : PyData → String
  | .none => "NoneType" | .bool _ => "bool" | .int _ => "int" | .str _ => "str" | .list _ => "list" | .tuple _ => "tuple" | .dict _ => "dict"
theorem tyD_ok {K : PySem.W.Frag} {S H : Hp} (sh : Same S H) {v : V} {d : PyData} (r : R K S v d) : TyX K H v (.type (tyD d)) := by
  cases r with
  | non => exact .base .non
  | bl b => exact .base (.bl b)
  | int i => exact .base (.int i)
  | str x => exact .base (.str x)
  | lst s l rl =>
    rcases s with (s | ⟨o, s⟩) | ⟨o, its, n, e, c, _⟩
    · exact .base (.lst (sh _ _ s))
    · exact .base (.frz (sh _ _ s))
    · exact .kList e c
  | tup s l rl =>
    rcases s with ⟨o, s, _⟩ | ⟨o, its, n, e, c, _⟩
    · exact .fTuple (sh _ _ s)
    · exact .kTuple e c
  | dct s rk => exact .base (.dK (sh _ _ s))
def isiD (T : String) (x : PyData) : Bool := tyD x == T || (T == "int" && tyD x == "bool")
theorem kitB_ok : ∀ T ∈ ["tuple", "str", "int", "bool", "list", "dict"], ∀ U ∈ ["NoneType", "bool", "int", "str", "list", "tuple", "dict"], kitB U T = some (U == T || (T == "int" && U == "bool")) := by decide +kernel
theorem tyD_mem (d : PyData) : tyD d ∈ ["NoneType", "bool", "int", "str", "list", "tuple", "dict"] := by cases d <;> simp [tyD]
def tIsi (K : PySem.W.Frag) (te : TE) (T : String) : TE := fun σ H Q => te σ H fun x H1 => ∃ t b, TyX K H1 x t ∧ PySem.W.kitOne K t (.type T) = some b ∧ Q (.bl b) H1
def dIsi (T : String) (x : PyData) : Option PyData := some (.bool (isiD T x))
theorem de_isi {T : String} {n : Str} {p1 p2 pos : Pos} (hT : T ∈ ["tuple", "str", "int", "bool", "list", "dict"]) (h : DE X K G e te fa) (hg : Gl X "isinstance") (hm : X.mg "isinstance" = none) (hg2 : Gl X n) (hm2 : X.mg n = none) (hv2 : bootBuiltins n = some (.type T))
    (hn2 : n ≠ "__name__" := by decide) (hd2 : (n == ("__debug__" : Str)) = false := by decide)
    (hs1 : starEach [.Name n p2] X.env = (false, eval (.Name n p2) X.env) :: starEach [] X.env := by rfl) (hs0 : starEach [e, .Name n p2] X.env = (false, eval e X.env) :: starEach [.Name n p2] X.env := by rfl) (hpl : (backTo pos (starEach [.Name n p2] X.env)).any (·.1) = false := by rfl) (hK : X.K = K := by rfl) :
    DE X K G (.Call (.Name "isinstance" p1) [e, .Name n p2] [] pos) (tCB (rIsi K) (tCons te (tCons (tC (.ty T)) tNil))) (f1 (dIsi T) fa) := by
  subst hK
  exact ⟨pe_callB call_isi hg hm boot_isinstance (pa_cons h.pe (pa_cons (pe_bltn hg2 hm2 hv2 (show RelV (.ty T) (.type T) from rfl) hn2 hd2) pa_nil hs1) hs0) (by decide) (by decide) hs0 hpl, fun σ H S ρ g d g' Q c hf q => by
  obtain ⟨x, g1, h1, hf⟩ := mb_inv hf
  obtain ⟨h3, rfl⟩ := mp_inv hf
  refine h.ad σ H S ρ g x g' _ c h1 fun v S1 H1 t1 c1 r1 => ?_
  cases h3
  exact ⟨v, .ty T, .type (tyD x), .type T, isiD T x, rfl, .ty T, tyD_ok c1.sh r1, kit_ty (kitB_ok T hT (tyD x) (tyD_mem x)), q _ S1 H1 t1 c1 (.bl _)⟩⟩
/-! ### slices -/
def fPart {G : Gh} (f : Option (Fe G)) : En → G.T → Option (Option Int × G.T) := fun ρ g => match f with
  | none => some (none, g)
  | some f => mb (f ρ g) fun x g => match x with
    | .int i => some (some i, g)
    | _ => none
def AdO (K : PySem.W.Frag) (G : Gh) (t : TO) (f : En → G.T → Option (Option Int × G.T)) : Prop :=
  ∀ (σ : St) (H S : Hp) (ρ : En) (g : G.T) (d : Option Int) (g' : G.T) (Q : Option Int → Hp → Prop), Ctx K G S H σ ρ g → f ρ g = some (d, g') →
    (∀ S' H', Stp G S H S' H' → Ctx K G S' H' σ ρ g' → Q d H') → t σ H Q
structure DO (X : Cx) (K : PySem.W.Frag) (G : Gh) (e : Option Expr) (t : TO) (f : En → G.T → Option (Option Int × G.T)) : Prop where
  pe : PO X e t
  ad : AdO K G t f
theorem do_none : DO X K G none tNoPart (fPart none) := ⟨po_none, fun σ H S ρ g d g' Q c e q => by cases e; exact q S H (Stp.refl _ _ _) c⟩
theorem do_some (h : DE X K G e te fa) : DO X K G (some e) (tPart te) (fPart (some fa)) := ⟨po_some h.pe, fun σ H S ρ g d g' Q c e q => by
  obtain ⟨x, g1, h1, e⟩ := mb_inv e
  refine h.ad σ H S ρ g x g1 _ c h1 fun v S1 H1 t1 c1 r1 => ?_
  cases r1 with
  | int i => cases e; exact ⟨i, rfl, q S1 H1 t1 c1⟩
  | _ => cases e⟩
def cutD {α : Type} (xs : List α) (lo hi : Option Int) : List α := (xs.drop (HT.sIx xs.length 0 lo)).take (HT.sIx xs.length xs.length hi - HT.sIx xs.length 0 lo)
theorem RL.cut {K : PySem.W.Frag} {S : Hp} {xs : List V} {ds : List PyData} (r : RL K S xs ds) (lo hi : Option Int) : RL K S (cutV xs lo hi) (cutD ds lo hi) := by
  unfold cutV cutD
  rw [r.length]
  exact (r.drop _).take _
theorem cutD_len {α : Type} (xs : List α) (lo hi : Option Int) : (cutD xs lo hi).length ≤ xs.length := by
  unfold cutD; simp; omega
def dSl (x : PyData) (lo hi : Option Int) : Option PyData := match x with
  | .tuple ds => some (.tuple (cutD ds lo hi))
  | .str z => if z.length ≤ sizeLine then some (.str (cutS z lo hi)) else none
  | _ => none
def fSl {G : Gh} (f : Fe G) (l h : En → G.T → Option (Option Int × G.T)) : Fe G := fun ρ g => mb (f ρ g) fun x g => mb (l ρ g) fun i g => mb (h ρ g) fun j g => mp (dSl x i j) g
variable {lo hi : Option Expr} {tl th : TO} {fl fh : En → G.T → Option (Option Int × G.T)} {p2 : Pos}
theorem de_sl (he : DE X K G e te fa) (hl : DO X K G lo tl fl) (hh : DO X K G hi th fh) (hK : X.K = K := by rfl) : DE X K G (.Subscript e (.Slice lo hi none p2) pos) (tSl (fun x lo hi H Q => rSlF K x lo hi H Q ∨ rSlS x lo hi H Q) te tl th) (fSl fa fl fh) := by
  subst hK
  exact ⟨pe_slice (SlR.or sl_tupF sl_str) he.pe hl.pe hh.pe, fun σ H S ρ g d g' Q c e q => by
  obtain ⟨x, g1, h1, e⟩ := mb_inv e
  obtain ⟨i, g2, h2, e⟩ := mb_inv e
  obtain ⟨j, g3, h3, e⟩ := mb_inv e
  obtain ⟨h4, rfl⟩ := mp_inv e
  refine he.ad σ H S ρ g x g1 _ c h1 fun v S1 H1 t1 c1 r1 => ?_
  refine hl.ad σ H1 S1 ρ g1 i g2 _ c1 h2 fun S2 H2 t2 c2 => ?_
  refine hh.ad σ H2 S2 ρ g2 j _ _ c2 h3 fun S3 H3 t3 c3 => ?_
  have t12 := t1.trans (t2.trans t3)
  have r1 := r1.mono (t2.s.trans t3.s)
  cases r1 with
  | @tup a xs ds s l rl =>
    cases h4
    refine .inl ⟨a, xs, rfl, (s.mono c3.sh).T, fun hw => ?_, fun hw p o hp ho => ?_⟩
    · refine q _ S3 H3 t12 c3 ?_
      have : cutD ds i j = ds := by
        unfold cutD
        rw [rl.length] at hw
        rw [hw.1, hw.2, List.drop_zero, Nat.sub_zero, List.take_length]
      rw [this]
      exact .tup s l rl
    · obtain ⟨t4, c4⟩ := c3.ext (.new (o := .frz o (.tup (cutV xs i j))) .refl hp)
      exact q _ _ _ (t12.trans t4) c4 (.tup (.inl ⟨o, upd_same, ho⟩) (Nat.le_trans (cutD_len ds i j) l) ((rl.cut i j).mono t4.s))
  | str z =>
    unfold dSl at h4
    simp only at h4
    split at h4
    · rename_i hz; cases h4; exact .inr ⟨z, rfl, hz, q _ S3 H3 t12 c3 (.str _)⟩
    · cases h4
  | _ => cases h4⟩
/-- xs[a:b], a new list -/
def dSlL (x : PyData) (lo hi : Option Int) : Option (List PyData) := match x with
  | .list ds => some (cutD ds lo hi)
  | _ => none
def fSlL {G : Gh} (f : Fe G) (l h : En → G.T → Option (Option Int × G.T)) : Fl G := fun ρ g => mb (f ρ g) fun x g => mb (l ρ g) fun i g => mb (h ρ g) fun j g => mp (dSlL x i j) g
theorem dn_sl (he : DE X K G e te fa) (hl : DO X K G lo tl fl) (hh : DO X K G hi th fh) (hK : X.K = K := by rfl) : DN X K G (.Subscript e (.Slice lo hi none p2) pos) (tSl (rSlL K) te tl th) (fSlL fa fl fh) := by
  subst hK
  exact ⟨pe_slice sl_list he.pe hl.pe hh.pe, fun σ H S ρ g d g' Q c e q => by
  obtain ⟨x, g1, h1, e⟩ := mb_inv e
  obtain ⟨i, g2, h2, e⟩ := mb_inv e
  obtain ⟨j, g3, h3, e⟩ := mb_inv e
  obtain ⟨h4, rfl⟩ := mp_inv e
  refine he.ad σ H S ρ g x g1 _ c h1 fun v S1 H1 t1 c1 r1 => ?_
  refine hl.ad σ H1 S1 ρ g1 i g2 _ c1 h2 fun S2 H2 t2 c2 => ?_
  refine hh.ad σ H2 S2 ρ g2 j _ _ c2 h3 fun S3 H3 t3 c3 => ?_
  have t12 := t1.trans (t2.trans t3)
  have r1 := r1.mono (t2.s.trans t3.s)
  cases r1 with
  | @lst a xs ds s l rl =>
    cases h4
    refine ⟨a, xs, rfl, c3.sh.seq s, fun p hp => ?_⟩
    obtain ⟨t5, c5, h0, s0⟩ := ad_new (vs := cutV xs i j) c t12 c3 hp
    exact q p _ S3 _ t5 c5 h0 s0 upd_same (rl.cut i j) (Nat.le_trans (cutD_len ds i j) l)
  | _ => cases h4⟩
/-! ### xs + ys, a new list -/
def rCatL (K : PySem.W.Frag) : R2 := fun x y H Q => ∃ l b xs zs, x = .ref l ∧ y = .ref b ∧ SqL K H l xs ∧ SqL K H b zs ∧ xs.length + zs.length ≤ sizeLine ∧ ∀ p, H p = none → Q (.ref p) (upd H p (.lst (xs ++ zs)))
theorem op_catL : OpR X (binaryOp .Add) (rCatL X.K) := by
  intro pins s σ H x y v u Q I rx ry h
  obtain ⟨l, b, xs, zs, rfl, rfl, hH, hB, hz, q⟩ := h
  cases rx
  cases ry
  obtain ⟨its, r1, ⟨⟨cls, dd, data, sl⟩, n, ho, hc, hd0, hd⟩, z1⟩ := I.list hH
  obtain ⟨its2, r2, ⟨⟨cls2, dd2, data2, sl2⟩, n2, ho2, hc2, hd02, hd2⟩, z2⟩ := I.list hB
  simp only at hc hd hd0 hc2 hd2 hd02
  subst hc hd hc2 hd2 hd0 hd02
  have e : its.toArray ++ its2.toArray = (its ++ its2).toArray := by simp
  refine concat_meets ⟨_, ho, rfl⟩ ⟨_, ho2, rfl⟩ noFill_list_add seq_list_add PySem.F.slot_list_add PySem.F.entry_list_add (PySem.F.args_list_add_2 _ _) (list_addW l b its.toArray its2.toArray n n2 none none sl sl2 (by rw [List.size_toArray, List.size_toArray, ← r1.length, ← r2.length]; exact hz)) ⟨ho, ho2, ?_⟩
  rw [e]
  exact ⟨.ref _, _, I.lnew (t' := s.toks) (r1.append r2) (by rw [List.length_append]; omega), rfl, q _ I.fresh⟩
def dCatL : PyData → PyData → Option (List PyData)
  | .list a, .list b => if a.length + b.length ≤ sizeLine then some (a ++ b) else none
  | _, _ => none
def f2N {G : Gh} (p : PyData → PyData → Option (List PyData)) (fa fb : Fe G) : Fl G := fun ρ g => mb (fa ρ g) fun x g => mb (fb ρ g) fun y g => mp (p x y) g
theorem dn_cat (ha : DE X K G a ta fa) (hb : DE X K G b tb fb) (hK : X.K = K := by rfl) : DN X K G (.BinOp a .Add b pos) (tOp (rCatL K) ta tb) (f2N dCatL fa fb) := by
  subst hK
  exact ⟨pe_op op_catL ha.pe hb.pe, fun σ H S ρ g d g' Q c hf q => by
  obtain ⟨x, g1, h1, hf⟩ := mb_inv hf
  obtain ⟨y, g2, h2, hf⟩ := mb_inv hf
  obtain ⟨h3, rfl⟩ := mp_inv hf
  refine ha.ad σ H S ρ g x g1 _ c h1 fun v S1 H1 t1 c1 r1 => ?_
  refine hb.ad σ H1 S1 ρ g1 y _ _ c1 h2 fun w S2 H2 t2 c2 r2 => ?_
  have r1 := r1.mono t2.s
  cases r1 with
  | @lst l xs ds s l1 rl =>
    cases r2 with
    | @lst l' ys es s' l2 rl' =>
      unfold dCatL at h3
      simp only at h3
      split at h3
      · rename_i hz
        cases h3
        refine ⟨l, l', xs, ys, rfl, rfl, c2.sh.seq s, c2.sh.seq s', by rw [rl.length, rl'.length]; exact hz, fun p hp => ?_⟩
        obtain ⟨t5, c5, h0, s0⟩ := ad_new (vs := xs ++ ys) c (t1.trans t2) c2 hp
        exact q p _ S2 _ t5 c5 h0 s0 upd_same (rl.append rl') (by simpa using hz)
      · cases h3
    | _ => cases h3
  | _ => cases h3⟩
/-! ### y = [comprehension] -/
theorem ds_setLc {nw : Bool} {O O' Ol : List Nat} (i : Nat) {y : Str} {py : Pos} {elt iter tg : Expr} {ifs : List Expr} {scope : Scope} {own : List (Str × Nat)} {spos : Pos} {wi : TI} {g : TG} {tt : TT} {src : Fl G} {bd : PyData → En → Option En} {ft : Ft G} {fe : Fe G} {is : List Nat} (hc : X.calm = true) (hN : X.N.Nodup) (hi : DI X K G tg iter wi src) (ok : BlkOk X.N X.env.scope scope own)
    (hg : ∀ (s : Shared) (H : Hp) (C : Addr) (cl : List (Str × Addr)) (fp : List Addr), DG (X.blk s H scope (compEnvC scope cl C X.env) fp) K is tg g bd)
    (ht : ∀ (s : Shared) (H : Hp) (C : Addr) (cl : List (Str × Addr)) (fp : List Addr), DTs (X.blk s H scope (compEnvC scope cl C X.env) fp) K G ifs tt ft)
    (he : ∀ (s : Shared) (H : Hp) (C : Addr) (cl : List (Str × Addr)) (fp : List Addr), DE (X.blk s H scope (compEnvC scope cl C X.env) fp) K G elt te fe)
    (hy : X.N[i]? = some y := by rfl) (hyl : X.env.scope.names.lookup y = some .local := by rfl) (hsw : swapsWith (.ListComp elt [⟨tg, iter, ifs, 0⟩] scope pos) (some (.Name y py)) spos.line X.env = pure true := by exact sw_true rfl rfl rfl (by decide +kernel))
    (h1 : subO O' (i :: O) = true := by rfl) (h2 : subO (i :: O) O' = true := by rfl) (his : subO is (own.map (·.2)) = true := by rfl) (hs : ∀ x, foldedSetIterable iter X.env x = pure x := by intro _; rfl) :
    DS X K G nw O O' Ol (.Assign [.Name y py] (.ListComp elt [⟨tg, iter, ifs, 0⟩] scope pos) spos) (tAsg (tLc wi g tt te (own.map (·.2))) (gName i)) (sSetN i (fComp src bd ft fe (own.map (·.2)))) :=
  ⟨ps_setLc hc hN hy hyl hsw hi.pe ok (fun s H C cl fp => (hg s H C cl fp).pe) (fun s H C cl fp => (ht s H C cl fp).pe) (fun s H C cl fp => (he s H C cl fp).pe) hs,
   ad_setN (ad_comp hi.ad (hg X.s_0 (fun _ => none) 0 [] []).ad his (ht X.s_0 (fun _ => none) 0 [] []).ad (he X.s_0 (fun _ => none) 0 [] []).ad) h1 h2⟩
theorem AdN.st {K : PySem.W.Frag} {f : Fl G} (h : AdN K G te f) : Ad K G te (fN f) := fun σ H S ρ g d g' Q c e q => by
  obtain ⟨ds, g1, h1, e⟩ := mb_inv e
  cases e
  refine h σ H S ρ g ds _ _ c h1 fun a vs S1 H1 t1 c1 ha hs ho rl hl => ?_
  obtain ⟨t2, c2⟩ := Ctx.take t1 c1 ha hs ho (fun z => c.gh a z ha)
  exact q _ _ _ t2 c2 (.lst (.inl (.inl upd_same)) hl (rl.mono (same_new hs)))
/-- .. y is not changed behind it -/
theorem ds_setLcH {nw : Bool} {O Ol : List Nat} (i : Nat) {y : Str} {py : Pos} {elt iter tg : Expr} {ifs : List Expr} {scope : Scope} {own : List (Str × Nat)} {spos : Pos} {wi : TI} {g : TG} {tt : TT} {src : Fl G} {bd : PyData → En → Option En} {ft : Ft G} {fe : Fe G} {is : List Nat} (hc : X.calm = true) (hN : X.N.Nodup) (hi : DI X K G tg iter wi src) (ok : BlkOk X.N X.env.scope scope own)
    (hg : ∀ (s : Shared) (H : Hp) (C : Addr) (cl : List (Str × Addr)) (fp : List Addr), DG (X.blk s H scope (compEnvC scope cl C X.env) fp) K is tg g bd)
    (ht : ∀ (s : Shared) (H : Hp) (C : Addr) (cl : List (Str × Addr)) (fp : List Addr), DTs (X.blk s H scope (compEnvC scope cl C X.env) fp) K G ifs tt ft)
    (he : ∀ (s : Shared) (H : Hp) (C : Addr) (cl : List (Str × Addr)) (fp : List Addr), DE (X.blk s H scope (compEnvC scope cl C X.env) fp) K G elt te fe)
    (hy : X.N[i]? = some y := by rfl) (hyl : X.env.scope.names.lookup y = some .local := by rfl) (hsw : swapsWith (.ListComp elt [⟨tg, iter, ifs, 0⟩] scope pos) (some (.Name y py)) spos.line X.env = pure true := by exact sw_true rfl rfl rfl (by decide +kernel))
    (hO : O.contains i = false := by rfl) (his : subO is (own.map (·.2)) = true := by rfl) (hs : ∀ x, foldedSetIterable iter X.env x = pure x := by intro _; rfl) :
    DS X K G nw O O Ol (.Assign [.Name y py] (.ListComp elt [⟨tg, iter, ifs, 0⟩] scope pos) spos) (tAsg (tLc wi g tt te (own.map (·.2))) (gName i)) (sSetH O i (fN (fComp src bd ft fe (own.map (·.2))))) :=
  ⟨ps_setLc hc hN hy hyl hsw hi.pe ok (fun s H C cl fp => (hg s H C cl fp).pe) (fun s H C cl fp => (ht s H C cl fp).pe) (fun s H C cl fp => (he s H C cl fp).pe) hs,
   ad_setH (ad_comp hi.ad (hg X.s_0 (fun _ => none) 0 [] []).ad his (ht X.s_0 (fun _ => none) 0 [] []).ad (he X.s_0 (fun _ => none) 0 [] []).ad).st hO⟩
end
end DL

set_option Elab.async false
set_option linter.all false
set_option maxRecDepth 100000
set_option maxHeartbeats 4000000
namespace DL
open PySem PySem.Spec PyProof.Rows L2
open Classical
section
variable {X : Cx} {K : PySem.W.Frag} {G : Gh} {a b c e o : Expr} {es : List Expr} {ta tb tc te to : TE} {t u : TA} {tA tB' : TT} {pos p apos cpos : Pos} {x : Str} {fa fb fo : Fe G} {k : Nat}
/-! ## x.index(y) -/
def fM {G : Gh} (p : PyData → List PyData → Option PyData) (fo : Fe G) (fa : Fa G) : Fe G := fun ρ g => mb (fo ρ g) fun x g => mb (fa ρ g) fun as g => match agD as with
  | some ds => mp (p x ds) g
  | none => none
def idxD (ds : List PyData) (d : PyData) : Option Nat := ds.findIdx? fun z => PyData.eqv z d
def dIndex : PyData → List PyData → Option PyData
  | .tuple ds, [d] => if SeqAt.shaped (.tuple ds) = true ∧ SeqAt.shaped d = true then (idxD ds d).map fun j => .int (j : Nat) else none

  | _, _ => none
theorem idxD_spec {ds : List PyData} {d : PyData} {j : Nat} (h : idxD ds d = some j) : ∃ z, ds[j]? = some z ∧ PyData.eqv z d = true ∧ ∀ (m : Nat) (z' : PyData), m < j → ds[m]? = some z' → PyData.eqv z' d = false := by
  unfold idxD at h
  rw [List.findIdx?_eq_some_iff_getElem] at h
  obtain ⟨hj, h1, h2⟩ := h
  refine ⟨ds[j], List.getElem?_eq_getElem hj, h1, fun m z' hm hz => ?_⟩
  have hm' : m < ds.length := by omega
  rw [List.getElem?_eq_getElem hm'] at hz
  cases hz
  have := h2 m hm
  simpa using this
theorem de_indexT {f : Fa G} (hr : Room (k + 1) X.A) (ho : DE X K G o to fo) (ha : DA X K G (e :: es) t f)
    (hbase : attributeBase o "index" X.env (eval o X.env) = eval o X.env := by rfl)
    (hfew : ((backTo cpos (starEach (e :: es) X.env)).all (fun x => !x.1) && (backToKw cpos (keywordEach [] X.env)).all (fun x => x.1.isSome)
      && decide ((e :: es).length + ([] : List Keyword).length + (if ([] : List Keyword).isEmpty then 0 else 1) < 30)) = true := by rfl)
    (hline : (apos.endLine == cpos.line) = true := by rfl) (hs : starEach (e :: es) X.env = (false, eval e X.env) :: starEach es X.env := by rfl) (hplain : (backTo cpos (starEach es X.env)).any (·.1) = false := by rfl) (hK : X.K = K := by rfl) :
    DE X K G (.Call (.Attribute o "index" apos) (e :: es) [] cpos) (tBMU K (rIndexT K) to t) (fM dIndex fo f) := by
  subst hK
  exact ⟨pe_bmU PySem.F.slot_tuple_index PySem.F.type_tuple_index (mt_indexT (room65 hr)) ho.pe ha.pe hbase hfew hline hs hplain, fun σ H S ρ g d g' Q c hf q => by
  obtain ⟨x, g1, h1, hf⟩ := mb_inv hf
  obtain ⟨as, g2, h2, hf⟩ := mb_inv hf
  refine ho.ad σ H S ρ g x g1 _ c h1 fun v S1 H1 t1 c1 r1 => ?_
  split at hf
  · rename_i ds hds
    obtain ⟨h3, rfl⟩ := mp_inv hf
    match x, ds, h3 with
    | .tuple ys, [y], h3 =>
      unfold dIndex at h3
      simp only at h3
      split at h3
      · rename_i hc
        simp only [Option.map_eq_some_iff] at h3
        obtain ⟨j, hj, rfl⟩ := h3
        obtain ⟨z, k1, k2, k3⟩ := idxD_spec hj
        cases r1 with
        | @tup pa xs _ s l rl =>
          refine ⟨⟨pa, xs, rfl, s.mono c1.sh⟩, ha.ad σ H1 S1 ρ g1 as _ _ c1 h2 fun vs S2 H2 t2 c2 r2 => ?_⟩
          obtain ⟨w, rfl, rw⟩ := rl1 (r2.data hds)
          exact ⟨pa, w, y, ys, j, z, rfl, rfl, R.dp c2.sh (.tup (s.mono t2.s) l (rl.mono t2.s)) (SeqAt.canLay_of_shaped hc.1), R.dp c2.sh rw (SeqAt.canLay_of_shaped hc.2), hc.1, hc.2, k1, k2, k3, q _ S2 H2 (t1.trans t2) c2 (.int _)⟩
      · cases h3
  · cases hf⟩
/-- xs.index(y) of a list -/
def dIndexL : PyData → List PyData → Option PyData
  | .list ds, [d] => if SeqAt.shaped (.list ds) = true ∧ SeqAt.shaped d = true then (idxD ds d).map fun j => .int (j : Nat) else none
  | _, _ => none
theorem de_indexL {f : Fa G} (hr : Room (k + 1) X.A) (ho : DE X K G o to fo) (ha : DA X K G (e :: es) t f)
    (hbase : attributeBase o "index" X.env (eval o X.env) = eval o X.env := by rfl)
    (hfew : ((backTo cpos (starEach (e :: es) X.env)).all (fun x => !x.1) && (backToKw cpos (keywordEach [] X.env)).all (fun x => x.1.isSome)
      && decide ((e :: es).length + ([] : List Keyword).length + (if ([] : List Keyword).isEmpty then 0 else 1) < 30)) = true := by rfl)
    (hline : (apos.endLine == cpos.line) = true := by rfl) (hs : starEach (e :: es) X.env = (false, eval e X.env) :: starEach es X.env := by rfl) (hplain : (backTo cpos (starEach es X.env)).any (·.1) = false := by rfl) (hK : X.K = K := by rfl) :
    DE X K G (.Call (.Attribute o "index" apos) (e :: es) [] cpos) (tBM K "list" (rIndexD K) to t) (fM dIndexL fo f) := by
  subst hK
  exact ⟨pe_bm PySem.F.plainAttrs_list PySem.F.slot_list_index PySem.F.type_list_index (mt_indexD (room65 hr)) ho.pe ha.pe hbase hfew hline hs hplain, fun σ H S ρ g d g' Q c hf q => by
  obtain ⟨x, g1, h1, hf⟩ := mb_inv hf
  obtain ⟨as, g2, h2, hf⟩ := mb_inv hf
  refine ho.ad σ H S ρ g x g1 _ c h1 fun v S1 H1 t1 c1 r1 => ?_
  split at hf
  · rename_i ds hds
    obtain ⟨h3, rfl⟩ := mp_inv hf
    match x, ds, h3 with
    | .list ys, [y], h3 =>
      unfold dIndexL at h3
      simp only at h3
      split at h3
      · rename_i hc
        simp only [Option.map_eq_some_iff] at h3
        obtain ⟨j, hj, rfl⟩ := h3
        obtain ⟨z, k1, k2, k3⟩ := idxD_spec hj
        cases r1 with
        | @lst pa xs _ s l rl =>
          refine ⟨.inl ⟨rfl, xs, c1.sh.seq s⟩, ha.ad σ H1 S1 ρ g1 as _ _ c1 h2 fun vs S2 H2 t2 c2 r2 => ?_⟩
          obtain ⟨w, rfl, rw⟩ := rl1 (r2.data hds)
          exact ⟨pa, w, y, ys, j, z, rfl, rfl, R.dp c2.sh (.lst (t2.s.seq s) l (rl.mono t2.s)) (SeqAt.canLay_of_shaped hc.1), R.dp c2.sh rw (SeqAt.canLay_of_shaped hc.2), hc.1, hc.2, k1, k2, k3, q _ S2 H2 (t1.trans t2) c2 (.int _)⟩
      · cases h3
  · cases hf⟩
/-! ## dicts -/
def putD (kvs : List (PyData × PyData)) (k : Key) (d : PyData) : List (PyData × PyData) :=
  if (kvs.any fun kv => kdEq kv.1 k) = true then kvs.map (fun kv => if kdEq kv.1 k = true then (kv.1, d) else kv) else kvs ++ [(kD k, d)]
theorem RK.append {K : PySem.W.Frag} {S : Hp} : ∀ {v v' : List (Key × V)} {d d' : List (PyData × PyData)} (_ : RK K S v d) (_ : RK K S v' d'), RK K S (v ++ v') (d ++ d')
  | _, _, _, _, .nil, r => r
  | _, _, _, _, .cons p q, r => .cons p (RK.append q r)
theorem RK.put {K : PySem.W.Frag} {S : Hp} {kvs : List (Key × V)} {ds : List (PyData × PyData)} (r : RK K S kvs ds) (k : Key) {v : V} {d : PyData} (h : R K S v d) : RK K S (putK kvs k v) (putD ds k d) := by
  have hany : (kvs.any fun kv => decide (kv.1 = k)) = ds.any fun kv => kdEq kv.1 k := by
    have key : ∀ {kvs : List (Key × V)} {ds : List (PyData × PyData)} (_ : RK K S kvs ds), (kvs.any fun kv => decide (kv.1 = k)) = ds.any fun kv => kdEq kv.1 k := by
      intro kvs ds r
      induction ds generalizing kvs with
      | nil => cases r; rfl
      | cons p ps ih =>
        cases r with
        | cons h1 h2 => rw [List.any_cons, List.any_cons, ih h2, kdEq_iff]
    exact key r
  unfold putK putD
  rw [hany]
  split
  · have key : ∀ {kvs : List (Key × V)} {ds : List (PyData × PyData)} (_ : RK K S kvs ds), RK K S (kvs.map fun kv => if kv.1 = k then (kv.1, v) else kv) (ds.map fun kv => if kdEq kv.1 k = true then (kv.1, d) else kv) := by
      intro kvs ds r
      induction ds generalizing kvs with
      | nil => cases r; exact .nil
      | cons p ps ih =>
        cases r with
        | @cons k' v' _ d' _ h1 h2 =>
          rw [List.map_cons, List.map_cons]
          have e := kdEq_iff (k := k') (y := k)
          by_cases z : k' = k
          · rw [decide_eq_true z] at e
            simp only [z, if_true]
            rw [z] at e
            rw [if_pos e]
            exact .cons h (ih h2)
          · rw [decide_eq_false z] at e
            simp only [z, if_false, e, Bool.false_eq_true]
            exact .cons h1 (ih h2)
    exact key r
  · exact r.append (.cons h .nil)
def mergeD (kvs : List (PyData × PyData)) (more : List (Key × PyData)) : List (PyData × PyData) := more.foldl (fun acc kv => putD acc kv.1 kv.2) kvs
abbrev Fkv (G : Gh) := En → G.T → Option (List (Key × PyData) × G.T)
inductive RM (K : PySem.W.Frag) (S : Hp) : List (Key × V) → List (Key × PyData) → Prop
  | nil : RM K S [] []
  | cons {k : Key} {v : V} {kvs : List (Key × V)} {d : PyData} {ds : List (Key × PyData)} : R K S v d → RM K S kvs ds → RM K S ((k, v) :: kvs) ((k, d) :: ds)
theorem RM.mono {K : PySem.W.Frag} {S S' : Hp} (e : Same S S') : ∀ {v : List (Key × V)} {d : List (Key × PyData)} (_ : RM K S v d), RM K S' v d
  | _, _, .nil => .nil
  | _, _, .cons p q => .cons (p.mono e) (RM.mono e q)
theorem RM.length {K : PySem.W.Frag} {S : Hp} : ∀ {v : List (Key × V)} {d : List (Key × PyData)} (_ : RM K S v d), v.length = d.length
  | _, _, .nil => rfl
  | _, _, .cons p q => congrArg (· + 1) (RM.length q)
theorem RM.merge {K : PySem.W.Frag} {S : Hp} : ∀ {more : List (Key × V)} {dm : List (Key × PyData)} {kvs : List (Key × V)} {ds : List (PyData × PyData)} (_ : RM K S more dm) (_ : RK K S kvs ds), RK K S (mergeK kvs more) (mergeD ds dm)
  | _, _, _, _, .nil, r => r
  | _, _, _, _, .cons (k := k) p q0, r => by have h := RM.merge q0 (r.put k p); exact h
def AdP (K : PySem.W.Frag) (G : Gh) (t : List (TE × TE)) (f : Fkv G) : Prop :=
  ∀ (σ : St) (H S : Hp) (ρ : En) (g : G.T) (d : List (Key × PyData)) (g' : G.T) (Q : List (V × V) → Hp → Prop), Ctx K G S H σ ρ g → f ρ g = some (d, g') →
    (∀ kvs S' H', Stp G S H S' H' → Ctx K G S' H' σ ρ g' → RM K S' kvs d → Q (kvs.map fun kv => (kV kv.1, kv.2)) H') → tPairs t σ H Q
structure DP (X : Cx) (K : PySem.W.Frag) (G : Gh) (pos : Pos) (keys : List (Option Expr)) (values : List Expr) (t : List (TE × TE)) (f : Fkv G) : Prop where
  pe : PPs X pos keys values t
  ad : AdP K G t f
def fpNil {G : Gh} : Fkv G := fun _ g => some ([], g)
def fpCons {G : Gh} (f h : Fe G) (r : Fkv G) : Fkv G := fun ρ g => mb (f ρ g) fun x g => mb (h ρ g) fun y g => mb (r ρ g) fun kvs g => match dKey x with
  | some k => some ((k, y) :: kvs, g)
  | none => none
theorem dp_nil : DP X K G pos [] [] [] fpNil := ⟨pps_nil, fun σ H S ρ g d g' Q c e q => by cases e; exact q [] S H (Stp.refl _ _ _) c .nil⟩
theorem dp_cons {ks : List (Option Expr)} {vs : List Expr} {trs : List (TE × TE)} {fr : Fkv G} (hk : DE X K G a ta fa) (hv : DE X K G b tb fb) (hr : DP X K G pos ks vs trs fr) : DP X K G pos (some a :: ks) (b :: vs) ((ta, tb) :: trs) (fpCons fa fb fr) := ⟨pps_cons hk.pe hv.pe hr.pe, fun σ H S ρ g d g' Q c e q => by
  obtain ⟨x, g1, h1, e⟩ := mb_inv e
  obtain ⟨y, g2, h2, e⟩ := mb_inv e
  obtain ⟨kvs, g3, h3, e⟩ := mb_inv e
  split at e
  · rename_i key hkey
    cases e
    refine hk.ad σ H S ρ g x g1 _ c h1 fun v S1 H1 t1 c1 r1 => ?_
    refine hv.ad σ H1 S1 ρ g1 y g2 _ c1 h2 fun w S2 H2 t2 c2 r2 => ?_
    refine hr.ad σ H2 S2 ρ g2 kvs _ _ c2 h3 fun ks S3 H3 t3 c3 r3 => ?_
    have e := kV_of r1 hkey
    subst e
    exact q ((key, w) :: ks) S3 H3 (t1.trans (t2.trans t3)) c3 (.cons (r2.mono t3.s) r3)
  · cases e⟩
def fDict {G : Gh} (f : Fkv G) : Fe G := fun ρ g => mb (f ρ g) fun kvs g => if kvs.length ≤ 15 then some (.dict (mergeD [] kvs), g) else none
theorem de_dict {keys : List (Option Expr)} {values : List Expr} {trs : List (TE × TE)} {f : Fkv G} (h : DP X K G pos keys values trs f) (hall : keys.all (·.isSome) = true := by rfl) (hl : keys.length = values.length := by rfl) (h0 : keys ≠ [] := by exact fun z => nomatch z) (h15 : keys.length ≤ 15 := by decide) :
    DE X K G (.Dict keys values pos) (tDisp trs) (fDict f) := ⟨pe_disp h.pe hall hl h0 h15, fun σ H S ρ g d g' Q c e q => by
  obtain ⟨kvs, g1, h1, e⟩ := mb_inv e
  split at e
  · rename_i hk
    cases e
    intro p hp
    have np : ¬ G.dom p := fun z => c.gh p z hp
    obtain ⟨t0, c0⟩ := c.ext (.junk (p := p) (o := .dK []) .refl hp)
    refine h.ad σ _ S ρ g kvs _ _ c0 h1 fun ks S1 H1 t1 c1 r1 => ?_
    have e1 : H1 p = some (.dK []) := t1.k p _ np upd_same
    have s1 : S1 p = none := t1.n p (by rw [upd_same]; exact fun z => nomatch z) (c.sh.free hp)
    refine ⟨e1, ks, rfl, by rw [r1.length]; exact hk, ?_⟩
    have ne : ∀ b, H b ≠ none → b ≠ p := fun b h z => by subst z; exact h hp
    have tt := t0.trans t1
    refine q _ (upd S1 p (.dK (mergeK [] ks))) _ ⟨tt.s.trans (same_new s1), fun b o h z => ?_, fun b h z => ?_, fun b h => ?_⟩ ⟨fun b o z => ?_, c1.env.mono (same_new s1), G.loc _ _ _ (fun b hb => upd_ne fun z => by subst z; exact np hb) c1.gok, fun b hb => ?_, fun b hb => ?_⟩ (.dct upd_same (RM.merge (r1.mono (same_new s1)) .nil))
    · rw [upd_ne (ne b (by rw [z]; exact fun z => nomatch z))]; exact tt.k b o h z
    · rw [upd_ne (ne b h)]; exact tt.n b h z
    · by_cases z : b = p
      · subst z; rw [upd_same]; exact fun z => nomatch z
      · rw [upd_ne z]; exact tt.p b h
    · by_cases w : b = p
      · subst w; rw [upd_same] at z ⊢; exact z
      · rw [upd_ne w] at z ⊢; exact c1.sh b o z
    · rw [upd_ne fun z => by subst z; exact np hb]; exact c1.gs b hb
    · rw [upd_ne fun z => by subst z; exact np hb]; exact c1.gh b hb
  · cases e⟩
/-- d.get(k, x) -/
def dGet2 (x y z : PyData) : Option PyData := match x with
  | .dict kvs => (dKey y).map fun k => (kget kvs k).getD z
  | _ => none
def f3 {G : Gh} (p : PyData → PyData → PyData → Option PyData) (fa fb fc : Fe G) : Fe G := fun ρ g => mb (fa ρ g) fun x g => mb (fb ρ g) fun y g => mb (fc ρ g) fun z g => mp (p x y z) g
theorem de_get2 {fc : Fe G} (hr : Room k X.A) (ha : DE X K G a ta fa) (hb : DE X K G b tb fb) (hc : DE X K G c tc fc) (m : M2 X a "get" apos b c cpos := by exact ⟨rfl, rfl, rfl, rfl⟩) : DE X K G (.Call (.Attribute a "get" apos) [b, c] [] cpos) (tDGet2 ta tb tc) (f3 dGet2 fa fb fc) := ⟨pe_dget2 (hu_of hr) ha.pe hb.pe hc.pe m, fun σ H S ρ g d g' Q cc hf q => by
  obtain ⟨x, g1, h1, hf⟩ := mb_inv hf
  obtain ⟨y, g2, h2, hf⟩ := mb_inv hf
  obtain ⟨z, g3, h3, hf⟩ := mb_inv hf
  obtain ⟨h4, rfl⟩ := mp_inv hf
  refine ha.ad σ H S ρ g x g1 _ cc h1 fun v S1 H1 t1 c1 r1 => ?_
  cases r1 with
  | @dct ad kvs ds e rk =>
    simp only [dGet2, Option.map_eq_some_iff] at h4
    obtain ⟨k, h5, rfl⟩ := h4
    refine ⟨ad, rfl, .inl ⟨kvs, .inl (c1.sh _ _ e)⟩, ?_⟩
    refine hb.ad σ H1 S1 ρ g1 y _ _ c1 h2 fun w S2 H2 t2 c2 r2 => ?_
    refine hc.ad σ H2 S2 ρ g2 z _ _ c2 h3 fun w3 S3 H3 t3 c3 r3 => ?_
    have rk3 := rk.mono (t2.s.trans t3.s)
    refine ⟨valV kvs k, ?_, ?_⟩
    · rw [kV_of r2 h5]
      exact DGet.k (c3.sh _ _ ((t2.s.trans t3.s) _ _ e))
    · refine q _ S3 H3 (t1.trans (t2.trans t3)) c3 ?_
      cases z' : kget ds k with
      | none => rw [(rk3.get k).2 z']; exact r3
      | some d => obtain ⟨u, h6, h7⟩ := (rk3.get k).1 d z'; rw [h6]; exact h7
  | _ => cases h4⟩

/-! ### dicts that are filled -/
def sNewD (i : Nat) : Fst G := fun ρ g => some (.nx (ρ.set i (.d (.dict []))) g)
theorem ds_newD {nw : Bool} {O O' Ol : List Nat} (i : Nat) {x : Str} {p pos' : Pos} (hN : X.N.Nodup) (hi : X.N[i]? = some x := by rfl) (hx : Loc X.env.scope x := by first | exact .inl rfl | exact .inr rfl) (h1 : subO O' (i :: O) = true := by rfl) (h2 : subO (i :: O) O' = true := by rfl) (hs : swapsWith (.Dict [] [] p) (some (.Name x pos')) pos.line X.env = pure false := by rfl)
    (hf : X.fn x = true ∨ X.env.scope.names.lookup x = some .local := by first | exact .inl rfl | exact .inr rfl | assumption) : DS X K G nw O O' Ol (.Assign [.Name x pos'] (.Dict [] [] p) pos) (tAsg tDNewK (gName i)) (sNewD i) := ⟨ps_set hN hi hx pe_dnewK hs hf, fun S0 H0 σ H S ρ g out D c e q => by
  cases e
  intro p hp
  have np : ¬ G.dom p := fun z => c.gh p z hp
  have h0 : H0 p = none := by
    cases z : H0 p with
    | none => rfl
    | some o => exact absurd hp (c.st.p p (by rw [z]; exact fun z => nomatch z))
  have sp : S p = none := c.sh.free hp
  obtain ⟨t0, s0, l0⟩ := (Ext.junk (S := S) (p := p) (o := .dK []) .refl hp).to (G := G) c.sh c.gh
  have c1 := c.step (g' := g) t0 s0 (G.loc _ _ _ l0 c.gok)
  refine q _ S _ (c1.take (x := .d (.dict [])) ⟨[], upd_same, .nil⟩ h0 sp (fun w => ?_) (fun j hj => by simpa using subO_mem h1 j hj) (fun j hj => subO_mem h2 j (List.mem_cons_of_mem _ hj)) (subO_mem h2 i List.mem_cons_self)) (Same.refl _)
  obtain ⟨x', ow, _, _, _⟩ := c.ow w
  obtain ⟨u, e, _⟩ := ow.there
  rw [hp] at e; cases e⟩
/-- x[e1] = e2, x an owned dict -/
def sPutD (i : Nat) (fk fv : Fe G) : Fst G := fun ρ g => match ρ[i]? with
  | some (.d (.dict kvs)) => (match fv ρ g with
    | some (v, g1) => if imm v = true then (match fk ρ g1 with
      | some (y, g2) => (match dKey y with
        | some k => if kvs.length < sizeLine then some (.nx (ρ.set i (.d (.dict (putD kvs k v)))) g2) else none
        | none => none)
      | none => none) else none
    | none => none)
  | _ => none
theorem ds_putD {nw : Bool} {O Ol : List Nat} (i : Nat) {x : Str} {p pos' : Pos} (hr : Room k X.A) (hk : DE X K G a ta fa) (hv : DE X K G b tb fb) (hO : O.contains i = true := by rfl) (hN : X.N[i]? = some x := by rfl) (hvis : Vis X.env.scope x := by first | exact Or.inl rfl | exact Or.inr (Or.inl rfl) | exact Or.inr (Or.inr rfl)) (hd : (x == ("__debug__" : Str)) = false := by decide)
    (hcd : (x == ("__classdict__" : Str)) = false := by decide) (hs : swapsWith b (some (.Subscript (.Name x p) a pos')) pos.line X.env = pure false := by rfl) : DS X K G nw O O Ol (.Assign [.Subscript (.Name x p) a pos'] b pos) (sDPut (tVar i) ta tb) (sPutD i fa fb) := ⟨ps_dput (hu_of hr) (pe_var hN hvis hd hcd) hk.pe hv.pe hs, fun S0 H0 σ H S ρ g out D c e q => by
  have hO' : i ∈ O := by simpa using hO
  unfold sPutD at e
  split at e
  · rename_i kvs hx
    split at e
    · rename_i v g1 hfv
      split at e
      · rename_i hvi
        split at e
        · rename_i y g2 hfk
          split at e
          · rename_i key hkey
            split at e
            · rename_i hlen
              cases e
              refine c.eval hv.ad hfv fun w S1 H1 c1 s1 r1 => ?_
              obtain ⟨ad, k1, _⟩ := c1.own i _ hx hO' (fun z => nomatch z)
              refine ⟨_, k1, ?_⟩
              refine c1.eval hk.ad hfk fun w2 S2 H2 c2 s2 r2 => ?_
              obtain ⟨ad', k2, ⟨ks, k3, k4⟩, _⟩ := c2.own i _ hx hO' (fun z => nomatch z)
              rw [k1] at k2
              cases k2
              have hyi : imm y = true := by
                cases y <;> first | (cases hkey; done) | rfl
              have e := kV_of (r2 hyi) hkey
              subst e
              refine ⟨ad, _, rfl, DPut.k k3 (by rw [k4.length]; exact hlen), ?_⟩
              exact q σ S2 _ (c2.put hO' hx (fun z => nomatch z) k1 ⟨_, upd_same, k4.put key ((r1 hvi).mono s2)⟩) (s1.trans s2)
            · cases e
          · cases e
        · cases e
      · cases e
    · cases e
  · cases e⟩
end

/-! ## the ghost of a law's draws: w = {"draws": [..], "at": n} -/
def WG (ds : List Int) (aw ad : Addr) : Gh where
  T := Nat
  ok := fun n H => H aw = some (.dK [(.inr "draws", .ref ad), (.inr "at", .int n)]) ∧ H ad = some (.lst (ds.map V.int))
  dom := fun a => a = aw ∨ a = ad
  loc := fun n H H' h ok => ⟨by rw [h aw (.inl rfl)]; exact ok.1, by rw [h ad (.inr rfl)]; exact ok.2⟩
/-- what _law_next hands back -/
def nxt (ds : List Int) (n : Nat) (m : Int) : Int := if n < ds.length then ds.getD n 0 % m else 0
def semNext (ds : List Int) (aw ad : Addr) : Fs (WG ds aw ad) := fun as (g : Nat) => match as with
  | [.rf a, .d (.int m)] => if a = aw ∧ 0 < m ∧ ds.length ≤ 1000000 then some (.int (nxt ds g m), (g + 1 : Nat)) else none
  | _ => none
/-- a reading chosen later -/
theorem pss_ex {ι : Type} {X : Cx} {st : List Stmt} {t : ι → TS} (h : ∀ i, PSs X st (t i)) : PSs X st (fun D σ H => ∃ i, t i D σ H) := ⟨fun pins s σ H D I ⟨i, q⟩ => (h i).run pins s σ H D I q⟩
end DL

set_option Elab.async false
set_option linter.all false
set_option maxRecDepth 100000
set_option maxHeartbeats 4000000
namespace DL
open PySem PySem.Spec PyProof.Rows L2
open Classical
/-- these names are no module's globals -/
def NoGl (mg : Str → Option Value) (l : List Str) : Prop := ∀ x ∈ l, mg x = none
theorem NoGl.at {mg : Str → Option Value} {l : List Str} (h : NoGl mg l) (x : Str) (m : l.contains x = true := by decide +kernel) : mg x = none := h x (by simpa using m)
theorem lift_sem {sem : List Ag → Option PyData} {n : Nat} {f : List Ag → G0.T → Option (PyData × G0.T)} (h : ∀ as r, sem as = some r → as.length = n ∧ f as () = some (r, ())) : ∀ as g r, lift sem as g = some r → as.length = n ∧ f as g = some r := fun as g r e => by
  unfold lift at e
  obtain ⟨d, g'⟩ := r
  obtain ⟨e1, e2⟩ := mp_inv e
  cases g
  cases g'
  exact h as d e1
theorem liftN_sem {sem : List Ag → Option (List PyData)} {n : Nat} {f : List Ag → G0.T → Option (Out G0.T)} (h : ∀ as r, sem as = some r → as.length = n ∧ f as () = some (.rt (.list r) ())) : ∀ as g r, liftN sem as g = some r → as.length = n ∧ f as g = some (.rt (.list r.1) r.2) := fun as g r e => by
  unfold liftN at e
  obtain ⟨d, g'⟩ := r
  obtain ⟨e1, e2⟩ := mp_inv e
  cases g
  cases g'
  exact h as d e1
def dAddI : PyData → PyData → Option PyData
  | .int i, .int j => some (.int (i + j))
  | .str x, .str y => if x.length + y.length ≤ sizeLine then some (.str (x ++ y)) else none
  | _, _ => none
def rAddI : R2 := fun x y H Q => rI0 (fun i j => .int (i + j)) x y H Q ∨ (∃ i j, x = .str i ∧ y = .str j ∧ i.length + j.length ≤ sizeLine ∧ Q (.str (i ++ j)) H)
theorem ipAdd {X : Cx} : PIp X .Add rAddI := OpR.or iop_add iop_add_str
theorem adAddI {K : PySem.W.Frag} : AdR K rAddI dAddI := fun S H x y dx dy d Q sh rx ry h q => by
  cases rx <;> cases ry <;> first | (cases h; done) | skip
  · cases h
    exact .inl ⟨_, _, rfl, rfl, q _ S H .refl (.int _)⟩
  · unfold dAddI at h
    simp only at h
    split at h
    · rename_i hl
      cases h
      exact .inr ⟨_, _, rfl, rfl, hl, q _ S H .refl (.str _)⟩
    · cases h
theorem ipSub {X : Cx} : PIp X .Sub (rI0 fun i j => .int (i - j)) := iop_sub
section
variable {X : Cx} {K : PySem.W.Frag} {G : Gh} {nw : Bool} {O O1 O' Ol is : List Nat} {a b c e : Expr} {te ta tb : TE} {pos : Pos} {fa fb : Fe G}
/-! ### a, b = e1, e2 -/
def sPar (O : List Nat) (i j : Nat) (f : Fa G) : Fst G := fun ρ g => match f (hide O ρ) g with
  | some ([.d x, .d y], g') => some (.nx ((ρ.set i (.d x)).set j (.d y)) g')
  | _ => none
theorem ds_par {ta : TA} {f : Fa G} (i j : Nat) {x y : Str} {px py pt : Pos} {kt k2 : Nat} {pt2 : Pos} (hN : X.N.Nodup) (h : DA X K G [a, b] ta f) (hi : X.N[i]? = some x := by rfl) (hj : X.N[j]? = some y := by rfl) (hij : i ≠ j := by decide) (hc : X.calm = true := by rfl)
    (hx : X.env.scope.names.lookup x = some .local := by rfl) (hy : X.env.scope.names.lookup y = some .local := by rfl) (hO : disj [i, j] O = true := by rfl)
    (hw : swappedStores [.Tuple [.Name x px, .Name y py] kt pt] (.Tuple [a, b] k2 pt2) X.env = pure (some [x, y]) := by rfl)
    (hs : swapsWithSole [.Tuple [.Name x px, .Name y py] kt pt] (.Tuple [a, b] k2 pt2) pos.line X.env = pure false := by rfl) :
    DS X K G nw O O Ol (.Assign [.Tuple [.Name x px, .Name y py] kt pt] (.Tuple [a, b] k2 pt2) pos) (tPar i j ta) (sPar O i j f) := ⟨ps_par hc hN hi hj hij hx hy h.pe hw hs, fun S0 H0 σ H S ρ g out D c e q => by
  unfold sPar at e
  split at e
  · rename_i dx dy g' hf
    cases e
    refine h.ad σ H S (hide O ρ) g [.d dx, .d dy] g' _ c.hid hf fun vs S1 H1 t c1 r => ?_
    cases r with
    | cons p1 q1 =>
      cases q1 with
      | cons p2 q2 =>
        cases q2
        cases p1 with
        | d r1 =>
          cases p2 with
          | d r2 =>
            refine ⟨_, _, rfl, ?_⟩
            have c2 := c.step t c1.sh c1.gok
            exact q _ S1 H1 (c2.sets (disj_mem hO) (.set (.set .refl (by simp) r1) (by simp) r2)) t.s
  · cases e⟩
/-! ### list(range(n)) -/
theorem RL.range {K : PySem.W.Frag} {S : Hp} (lo : Int) : ∀ n : Nat, RL K S ((List.range n).map fun (i : Nat) => V.int (lo + (i : Nat))) (rangeD lo n) := by
  intro n
  unfold rangeD
  generalize List.range n = l
  induction l with
  | nil => exact .nil
  | cons i l ih => exact .cons (.int _) ih
theorem dn_listRange {p p2 pos2 : Pos} (hg : Gl X "list") (hm : X.mg "list" = none) (hg2 : Gl X "range") (hm2 : X.mg "range" = none) (h : DE X K G a ta fa) (hc : X.calm = true := by rfl) (na : starEach [a] X.env = (false, eval a X.env) :: starEach [] X.env := by rfl)
    (nb : starEach [.Call (.Name "range" p2) [a] [] pos2] X.env = (false, eval (.Call (.Name "range" p2) [a] [] pos2) X.env) :: starEach [] X.env := by rfl) :
    DN X K G (.Call (.Name "list" p) [.Call (.Name "range" p2) [a] [] pos2] [] pos) (tLstRg (tRg1 ta)) (fRangeL fa) := ⟨pe_listRg hc hg hm (prg_1 hg2 hm2 h.pe na) nb, fun σ H S ρ g d g' Q c hf q => by
  obtain ⟨x, g1, h1, hf⟩ := mb_inv hf
  refine h.ad σ H S ρ g x g1 _ c h1 fun v S1 H1 t1 c1 r1 => ?_
  cases r1 with
  | int j =>
    simp only at hf
    split at hf
    · rename_i hcc
      cases hf
      have h2 := of_decide_eq_true hcc.1
      have e0 : (j - 0).toNat = j.toNat := by simp
      refine ⟨j, rfl, ⟨by decide, by decide, h2.1, h2.2, by rw [e0]; have := hcc.2; rw [sizeLine_eq] at this; omega⟩, fun l hl => ?_⟩
      obtain ⟨t2, c2, h0, s0⟩ := ad_new (vs := rgV 0 j) c t1 c1 hl
      refine q l _ S1 _ t2 c2 h0 s0 upd_same ?_ (by rw [rangeD_len]; exact hcc.2)
      unfold rgV
      rw [e0]
      exact RL.range 0 j.toNat
    · cases hf
  | _ => cases hf⟩
theorem ds_app {f : Fe G} (i : Nat) {x : Str} {p apos cpos : Pos} (h : DE X K G e te f) (hO : O.contains i = true := by rfl) (hN : X.N[i]? = some x := by rfl) (hv : Vis X.env.scope x := by first | exact Or.inl rfl | exact Or.inr (Or.inl rfl) | exact Or.inr (Or.inr rfl)) (hd : (x == ("__debug__" : Str)) = false := by decide)
    (hcd : (x == ("__classdict__" : Str)) = false := by decide)
    (hbase : attributeBase (.Name x p) "append" X.env (eval (.Name x p) X.env) = eval (.Name x p) X.env := by rfl)
    (hfew : ((backTo cpos (starEach [e] X.env)).all (fun x => !x.1) && (backToKw cpos (keywordEach [] X.env)).all (fun x => x.1.isSome)
      && decide (([e] : List Expr).length + ([] : List Keyword).length + (if ([] : List Keyword).isEmpty then 0 else 1) < 30)) = true := by rfl)
    (hline : (apos.endLine == cpos.line) = true := by rfl) (hs : starEach [e] X.env = (false, eval e X.env) :: starEach [] X.env := by rfl) (hplain : (backTo cpos (starEach [] X.env)).any (·.1) = false := by rfl)
    (hsw : swapsWith (.Call (.Attribute (.Name x p) "append" apos) [e] [] cpos) none pos.line X.env = pure false := by rfl) (hK : X.K = K := by rfl) :
    DS X K G nw O O Ol (.Expr (.Call (.Attribute (.Name x p) "append" apos) [e] [] cpos) pos) (tDrop (tBM K "list" rAppend (tVar i) (tCons te tNil))) (sApp i f) := by
  subst hK
  exact ⟨ps_expr (pe_bm PySem.F.plainAttrs_list PySem.F.slot_list_append PySem.F.type_list_append mt_append (pe_var hN hv hd hcd) (pa_cons h.pe pa_nil hs) hbase hfew hline hs hplain) hsw, ad_app h.ad hO⟩
theorem ds_appH {f : Fe G} (i : Nat) {x : Str} {p apos cpos : Pos} (h : DE X K G e te f) (hO : O.contains i = true := by rfl) (hN : X.N[i]? = some x := by rfl) (hv : Vis X.env.scope x := by first | exact Or.inl rfl | exact Or.inr (Or.inl rfl) | exact Or.inr (Or.inr rfl)) (hd : (x == ("__debug__" : Str)) = false := by decide)
    (hcd : (x == ("__classdict__" : Str)) = false := by decide)
    (hbase : attributeBase (.Name x p) "append" X.env (eval (.Name x p) X.env) = eval (.Name x p) X.env := by rfl)
    (hfew : ((backTo cpos (starEach [e] X.env)).all (fun x => !x.1) && (backToKw cpos (keywordEach [] X.env)).all (fun x => x.1.isSome)
      && decide (([e] : List Expr).length + ([] : List Keyword).length + (if ([] : List Keyword).isEmpty then 0 else 1) < 30)) = true := by rfl)
    (hline : (apos.endLine == cpos.line) = true := by rfl) (hs : starEach [e] X.env = (false, eval e X.env) :: starEach [] X.env := by rfl) (hplain : (backTo cpos (starEach [] X.env)).any (·.1) = false := by rfl)
    (hsw : swapsWith (.Call (.Attribute (.Name x p) "append" apos) [e] [] cpos) none pos.line X.env = pure false := by rfl) (hK : X.K = K := by rfl) :
    DS X K G nw O O Ol (.Expr (.Call (.Attribute (.Name x p) "append" apos) [e] [] cpos) pos) (tDrop (tBM K "list" rAppend (tVar i) (tCons te tNil))) (sAppH O i f) := by
  subst hK
  exact ⟨ps_expr (pe_bm PySem.F.plainAttrs_list PySem.F.slot_list_append PySem.F.type_list_append mt_append (pe_var hN hv hd hcd) (pa_cons h.pe pa_nil hs) hbase hfew hline hs hplain) hsw, ad_appH h.ad hO⟩
end
/-! ### comparisons as tests -/
section
variable {X : Cx} {K : PySem.W.Frag} {G : Gh} {a b : Expr} {ta tb : TE} {pos : Pos} {fa fb : Fe G} {k : Nat}
theorem dt_eq (hr : Room k X.A) (ha : DE X K G a ta fa) (hb : DE X K G b tb fb) (hK : X.K = K := by rfl) : DT X K G (.Compare a [.Eq] [b] pos) (tTest (tOp (fun x y H Q => rEq x y H Q ∨ rEqD K x y H Q) ta tb)) (fB (f2 dEq fa fb)) := by
  subst hK
  exact dt_cmp (opEq hr) adEq ha hb (nomark _)
theorem dt_ne (hr : Room k X.A) (ha : DE X K G a ta fa) (hb : DE X K G b tb fb) (hK : X.K = K := by rfl) : DT X K G (.Compare a [.NotEq] [b] pos) (tTest (tOp (fun x y H Q => rNe x y H Q ∨ rNeD K x y H Q) ta tb)) (fB (f2 dNe fa fb)) := by
  subst hK
  exact dt_cmp (opNe hr) adNe ha hb (nomark _)
theorem dt_lt (ha : DE X K G a ta fa) (hb : DE X K G b tb fb) : DT X K G (.Compare a [.Lt] [b] pos) (tTest (tOp (rCmpA (fun i j => decide (i < j)) (fun i j => decide (i.cps.toList < j.cps.toList))) ta tb)) (fB (f2 dLt fa fb)) := dt_cmp opLt adCmp ha hb (nomark _)
theorem dt_le (ha : DE X K G a ta fa) (hb : DE X K G b tb fb) : DT X K G (.Compare a [.LtE] [b] pos) (tTest (tOp (rI0 fun i j => .bl (decide (i ≤ j))) ta tb)) (fB (f2 dLe fa fb)) := dt_cmp op_le adCmpI ha hb (nomark _)
theorem dt_gt (ha : DE X K G a ta fa) (hb : DE X K G b tb fb) : DT X K G (.Compare a [.Gt] [b] pos) (tTest (tOp (rI0 fun i j => .bl (decide (j < i))) ta tb)) (fB (f2 dGt fa fb)) := dt_cmp op_gt adCmpI ha hb (nomark _)
theorem dt_ge (ha : DE X K G a ta fa) (hb : DE X K G b tb fb) : DT X K G (.Compare a [.GtE] [b] pos) (tTest (tOp (rI0 fun i j => .bl (decide (j ≤ i))) ta tb)) (fB (f2 dGe fa fb)) := dt_cmp op_ge adCmpI ha hb (nomark _)
theorem dt_isN (ha : DE X K G a ta fa) (hb : DE X K G b tb fb) : DT X K G (.Compare a [.Is] [b] pos) (tTest (tOp (fun x y H Q => y = .non ∧ Q (.bl (decide (x = .non))) H) ta tb)) (fB (f2 (dIsN true) fa fb)) := dt_cmp op_isN adIsN ha hb (nomark _)
theorem dt_notN (ha : DE X K G a ta fa) (hb : DE X K G b tb fb) : DT X K G (.Compare a [.IsNot] [b] pos) (tTest (tOp (fun x y H Q => y = .non ∧ Q (.bl (!decide (x = .non))) H) ta tb)) (fB (f2 (dIsN false) fa fb)) := dt_cmp op_notN adNotN ha hb (nomark _)
theorem dt_in (hr : Room (k + 1) X.A) (ha : DE X K G a ta fa) (hb : DE X K G b tb fb) (hm : behindInMarks .In b = false := by rfl) (hK : X.K = K := by rfl) : DT X K G (.Compare a [.In] [b] pos) (tTest (tOp (rInA K) ta tb)) (fB (f2 dIn fa fb)) := by
  subst hK
  exact dt_cmp (opIn hr) adIn ha hb hm
theorem dt_notIn (hr : Room (k + 1) X.A) (ha : DE X K G a ta fa) (hb : DE X K G b tb fb) (hm : behindInMarks .NotIn b = false := by rfl) (hK : X.K = K := by rfl) : DT X K G (.Compare a [.NotIn] [b] pos) (tTest (tOp (rNotInA K) ta tb)) (fB (f2 dNotIn fa fb)) := by
  subst hK
  exact dt_cmp (opNotIn hr) adNotIn ha hb hm
theorem dt_inD (hr : Room k X.A) (ha : DE X K G a ta fa) (hb : DE X K G b tb fb) (hm : behindInMarks .In b = false := by rfl) : DT X K G (.Compare a [.In] [b] pos) (L2.tB (tDIn ta tb)) (fB (f2 dInD fa fb)) := ⟨pt_cmp (pc_din (hu_of hr) ha.pe hb.pe) hm, ad_tB (de_inD (pos := pos) hr ha hb hm).ad⟩
theorem dt_notInD (hr : Room k X.A) (ha : DE X K G a ta fa) (hb : DE X K G b tb fb) (hm : behindInMarks .NotIn b = false := by rfl) : DT X K G (.Compare a [.NotIn] [b] pos) (L2.tB (tDNotIn ta tb)) (fB (f2 dNotInD fa fb)) := ⟨pt_cmp (pc_dnotin (hu_of hr) ha.pe hb.pe) hm, ad_tB (de_notInD (pos := pos) hr ha hb hm).ad⟩
end
end DL

set_option Elab.async false
set_option linter.all false
set_option maxRecDepth 100000
set_option maxHeartbeats 4000000
namespace DL
open PySem PySem.Spec PyProof.Rows L2
open Classical
theorem NoGl.sub {mg : Str → Option Value} {l m : List Str} (h : NoGl mg l) (s : m.all (fun x => l.contains x) = true) : NoGl mg m := fun x hx => h x (by have := List.all_eq_true.mp s x hx; simpa using this)
/-! ## what a def is worth: its body's own semantics -/
def semP (n N : Nat) (F : Fst G0) : List Ag → Option PyData := fun as => if as.length = n then (match outR (F (enter N as) ()) with
  | some (d, _) => some d
  | none => none) else none
def semPN (n N : Nat) (F : Fst G0) : List Ag → Option (List PyData) := fun as => if as.length = n then (match F (enter N as) () with
  | some (.rt (.list r) _) => some r
  | _ => none) else none
def semG {G : Gh} (n N : Nat) (F : Fst G) : Fs G := fun as g => if as.length = n then outR (F (enter N as) g) else none
def semGN {G : Gh} (n N : Nat) (F : Fst G) : List Ag → G.T → Option (List PyData × G.T) := fun as g => if as.length = n then (match F (enter N as) g with
  | some (.rt (.list r) g') => some (r, g')
  | _ => none) else none
theorem semP_ok {n N : Nat} {F : Fst G0} : ∀ as r, semP n N F as = some r → as.length = n ∧ outR (F (enter N as) ()) = some (r, ()) := fun as r h => by
  unfold semP at h
  split at h
  · rename_i hl
    split at h
    · rename_i d u e
      cases h
      exact ⟨hl, e⟩
    · cases h
  · cases h
theorem semPN_ok {n N : Nat} {F : Fst G0} : ∀ as r, semPN n N F as = some r → as.length = n ∧ F (enter N as) () = some (.rt (.list r) ()) := fun as r h => by
  unfold semPN at h
  split at h
  · rename_i hl
    split at h
    · rename_i d u e
      cases h
      exact ⟨hl, e⟩
    · cases h
  · cases h
theorem semG_ok {G : Gh} {n N : Nat} {F : Fst G} : ∀ as g r, semG n N F as g = some r → as.length = n ∧ outR (F (enter N as) g) = some r := fun as g r h => by
  unfold semG at h
  split at h
  · rename_i hl; exact ⟨hl, h⟩
  · cases h
theorem semGN_ok {G : Gh} {n N : Nat} {F : Fst G} : ∀ as g r, semGN n N F as g = some r → as.length = n ∧ F (enter N as) g = some (.rt (.list r.1) r.2) := fun as g r h => by
  unfold semGN at h
  split at h
  · rename_i hl
    split at h
    · rename_i d u e
      cases h
      exact ⟨hl, e⟩
    · cases h
  · cases h
/-- a def of the text where it stands -/
structure At (K : PySem.W.Frag) (mg : Str → Option Value) (x : Str) (st : Stmt) (ps : List Str) : Prop where
  ex : ∃ (f : Addr) (fd : FuncData), Fun K x x st f fd ∧ mg x = some (.ref f) ∧ Binds K fd ps []
section
variable {P : Program} {w : World} {K : PySem.W.Frag} {mg : Str → Option Value} {base : Heap}
theorem At.none {x : Str} {st : Stmt} {ps : List Str} {k : Nat} {sp : Sp} (T : At K mg x st ps) (h : ∀ vs H Q E, ¬ sp vs H Q E) : CallOk P w K mg base k x sp := by
  obtain ⟨f, fd, U, hm, hb⟩ := T.ex
  exact ⟨f, fd, ps, ⟨fun vs H Q E q => absurd q (h vs H Q E), fun A outer s H args us vs Q E _ _ _ _ q => absurd q (h vs H Q E)⟩, hm, U.kp, hb⟩
theorem CallOk.mono {x : Str} {j k : Nat} {sp : Sp} (C : CallOk P w K mg base j x sp) (h : j ≤ k) : CallOk P w K mg base k x sp := by
  obtain ⟨f, fd, ps, F, hm, hk, hb⟩ := C.ex
  exact ⟨f, fd, ps, F.mono h, hm, hk, hb⟩
theorem noP : ∀ vs H Q E, ¬ GSp K G0 (lift fun _ => none) vs H Q E := fun vs H Q E h => by
  obtain ⟨_, _, _, _, _, _, _, _, _, _, e, _⟩ := h
  cases e
theorem noPN : ∀ vs H Q E, ¬ GSpN K G0 (liftN fun _ => none) vs H Q E := fun vs H Q E h => by
  obtain ⟨_, _, _, _, _, _, _, _, _, _, e, _⟩ := h
  cases e
theorem noG {G : Gh} : ∀ vs H Q E, ¬ GSp K G (fun _ _ => none) vs H Q E := fun vs H Q E h => by
  obtain ⟨_, _, _, _, _, _, _, _, _, _, e, _⟩ := h
  cases e
theorem noGN {G : Gh} : ∀ vs H Q E, ¬ GSpN K G (fun _ _ => none) vs H Q E := fun vs H Q E h => by
  obtain ⟨_, _, _, _, _, _, _, _, _, _, e, _⟩ := h
  cases e
end
/-! ## the law's own def -/
/-- what the law promises -/
def spLaw (K : PySem.W.Frag) : Sp := fun vs H Q _ => ∃ (a : Addr) (ns : List Int), vs = [.ref a] ∧ SqL K H a (ns.map V.int) ∧ ns.length ≤ 63 ∧ ∀ H', Q (.bl true) H'
/-- w = {"draws": e, "at": 0} and what follows -/
theorem law_reads {X : Cx} {K : PySem.W.Frag} {st : Stmt} {e : Expr} {rest : List Stmt} {td : TE} {N : List Str} {fd : Fl G0} {i : Nat} {ts : List Int × Addr × Addr → TS} {O' Ol : List Nat} {F : (ds : List Int) → (aw ad : Addr) → Fst (WG ds aw ad)} {H : Hp} {a : Addr} {ns : List Int} {D : Ends}
    (hp : PE X e td → PS X st (tAsg (tDisp [(tC (.str "draws"), td), (tC (.str "at"), tC (.int 0))]) (gName i))) (hv : DN X K G0 e td fd) (hr : ∀ p : List Int × Addr × Addr, DSs X K (WG p.1 p.2.1 p.2.2) false [] O' Ol rest (ts p) (F p.1 p.2.1 p.2.2))
    (hS : SqL K H a (ns.map V.int)) (hl : ns.length ≤ 63) {dd : List PyData} {is : List Int} (e1 : fd (enter N.length [.d (.list (ns.map .int))]) () = some (dd, ())) (e2 : allI dd = some is)
    (e3 : ∀ (aw ad : Addr), ∃ g', F is aw ad ((enter N.length [.d (.list (ns.map .int))]).set i (.rf aw)) (0 : Nat) = some (.rt (.bool true) g')) (hi : i < N.length) (q : ∀ H', D.rt (.bl true) H') :
    ∃ t, PSs X (st :: rest) t ∧ t D (L2.start N [.ref a]) H := by
  have hd := hv.ad
  refine ⟨_, pss_cons (hp hv.pe) (pss_ex (ι := List Int × Addr × Addr) fun p => (hr p).pe), ?_⟩
  have h63 : ns.length ≤ sizeLine := Nat.le_trans hl (by decide)
  have r0 : AsR K H [.ref a] [.d (.list (ns.map .int))] := .cons (.d (.lst hS (by rw [List.length_map]; exact h63) (RL.ofInts ns))) .nil
  have s0 : SCtx K G0 H H [] H H (L2.start N [.ref a]) (enter N.length [.d (.list (ns.map .int))]) () := sctx_start (Same.refl _) r0 trivial (fun _ z => z.elim) (fun _ z => z.elim)
  have c0 : Ctx K G0 H H (L2.start N [.ref a]) (enter N.length [.d (.list (ns.map .int))]) () := ⟨s0.sh, ⟨s0.len, fun j x hx hn => s0.env j x hx (by simp) hn⟩, trivial, fun _ z => z.elim, fun _ z => z.elim⟩
  intro p hpn
  obtain ⟨t1, c1⟩ := c0.ext (.junk (p := p) (o := .dK []) .refl hpn)
  refine hd _ _ H _ () dd () _ c1 e1 fun ad vs S2 H2 t2 c2 had hsd hod rl hdl => ?_
  have ev := rl.ints e2
  subst ev
  have ep : H2 p = some (.dK []) := t2.k p _ (fun z => z) upd_same
  have sp : S2 p = none := t2.n p (by rw [upd_same]; exact fun z => nomatch z) (by exact hpn)
  have ne : ad ≠ p := fun z => by subst z; rw [upd_same] at had; cases had
  refine ⟨ep, [(.inr "draws", .ref ad), (.inr "at", .int 0)], rfl, (by show 2 ≤ 15; omega), ?_⟩
  obtain ⟨g', e3⟩ := e3 p ad
  refine ⟨(is, p, ad), (hr (is, p, ad)).ad S2 (upd H2 p (.dK (mergeK [] [(.inr "draws", .ref ad), (.inr "at", .int 0)]))) _ _ S2 _ (0 : Nat) _ D ?_ e3 ?_⟩
  · refine ⟨Stp.refl _ _ _, fun b o z => ?_, by simp [c2.env.1], fun j x hx _ hn => ?_, fun j x _ hj => absurd hj (by simp), fun j k b x y hj => absurd hj (by simp), ⟨?_, ?_⟩, fun b hb => ?_, fun b hb => ?_, fun b hb => ?_⟩
    · rw [upd_ne fun z' => by subst z'; rw [sp] at z; cases z]; exact c2.sh b o z
    · rcases set_get hx with ⟨rfl, hl, rfl⟩ | ⟨e, hx⟩
      · exact ⟨.ref p, List.getElem?_set_self (by rw [c2.env.1]; exact hl), .rf p⟩
      · obtain ⟨v, h1, h2⟩ := c2.env.2 j x hx hn
        exact ⟨v, by rw [List.getElem?_set_ne (Ne.symm e)]; exact h1, h2⟩
    · have e : mergeK [] [((.inr "draws" : Key), V.ref ad), (.inr "at", V.int 0)] = [(.inr "draws", V.ref ad), (.inr "at", V.int 0)] := by rfl
      show upd H2 p _ p = _
      rw [upd_same, e]
      rfl
    · show upd H2 p _ ad = _
      rw [upd_ne ne]; exact hod
    · rcases hb with rfl | rfl
      · exact sp
      · exact hsd
    · rcases hb with rfl | rfl
      · rw [upd_same]; exact fun z => nomatch z
      · rw [upd_ne ne, hod]; exact fun z => nomatch z
    · rcases hb with rfl | rfl
      · rw [upd_same]; exact fun z => nomatch z
      · rw [upd_ne ne, hod]; exact fun z => nomatch z
  · show Ful K (WG is p ad) false S2 _ _ _ S2 D (.rt (.bool true) g')
    intro v S' H' _ _ _ r
    cases r
    exact q H'
end DL

set_option Elab.async false
set_option linter.all false
set_option maxRecDepth 100000
set_option maxHeartbeats 4000000
namespace DL
open PySem L2
/-! ## the plain side: lemmas about the semantics -/
theorem hideAux_nil : ∀ (ρ : En) (i : Nat), hideAux [] i ρ = ρ
  | [], _ => rfl
  | x :: xs, i => by simp [hideAux, hideAux_nil xs]
theorem hide_nil (ρ : En) : hide [] ρ = ρ := hideAux_nil ρ 0
theorem atI_0 {α : Type} (a : α) (l : List α) : atI (a :: l) 0 = some a := atI_nat (j := 0) rfl
theorem atI_1 {α : Type} (a b : α) (l : List α) : atI (a :: b :: l) 1 = some b := atI_nat (j := 1) rfl
theorem atI_2 {α : Type} (a b c : α) (l : List α) : atI (a :: b :: c :: l) 2 = some c := atI_nat (j := 2) rfl
theorem atI_3 {α : Type} (a b c d : α) (l : List α) : atI (a :: b :: c :: d :: l) 3 = some d := atI_nat (j := 3) rfl
theorem cut_1 {α : Type} (a : α) (l : List α) : cutD (a :: l) (some 1) none = l := by
  unfold cutD
  rw [show HT.sIx (a :: l).length 0 (some 1) = min 1 (a :: l).length from HT.sIx_nat _ 0 1, HT.sIx_none]
  have : min 1 (a :: l).length = 1 := by simp
  rw [this]
  simp
theorem cut_to {α : Type} (l : List α) (n : Nat) : cutD l none (some (n : Int)) = l.take n := by
  unfold cutD
  rw [HT.sIx_nat, HT.sIx_none]
  simp only [List.drop_zero, Nat.sub_zero]
  by_cases h : n ≤ l.length
  · rw [Nat.min_eq_left h]
  · rw [Nat.min_eq_right (by omega), List.take_length, List.take_of_length_le (by omega)]
theorem log2_lt64 {i : Int} (h : i.natAbs < 2 ^ 64) : i.natAbs.log2 < 64 := by
  by_cases h0 : i.natAbs = 0
  · rw [h0]; decide
  · exact (Nat.log2_lt h0).mpr h
theorem dMul_small {i j : Int} (h : i.natAbs < 2 ^ 64) (h' : j.natAbs < 2 ^ 64) : dMul (.int i) (.int j) = some (.int (i * j)) := by
  have a := log2_lt64 h
  have b := log2_lt64 h'
  have : CMulW i j := by unfold CMulW; omega
  simp [dMul, dIC, this]
theorem dMod_pos {i j : Int} (h : 0 < j) : dMod (.int i) (.int j) = some (.int (i % j)) := by simp [dMod, dIC, h]
theorem dDiv_small {i j : Int} (h : 0 < j) (h' : j.natAbs < 2 ^ 64) : dDiv (.int i) (.int j) = some (.int (i / j)) := by
  have b := log2_lt64 h'
  have : CDivW i j := ⟨h, by omega⟩
  simp [dDiv, dIC, this]
theorem dPow_1018 : dPow (.int 10) (.int 18) = some (.int 1000000000000000000) := by rfl
theorem dGe_int (i j : Int) : dGe (.int i) (.int j) = some (.bool (decide (j ≤ i))) := rfl
theorem dGt_int (i j : Int) : dGt (.int i) (.int j) = some (.bool (decide (j < i))) := rfl
theorem dLt_int (i j : Int) : dLt (.int i) (.int j) = some (.bool (decide (i < j))) := rfl
theorem dLe_int (i j : Int) : dLe (.int i) (.int j) = some (.bool (decide (i ≤ j))) := rfl
theorem dAdd_int (i j : Int) : dAdd (.int i) (.int j) = some (.int (i + j)) := rfl
theorem dSub_int (i j : Int) : dSub (.int i) (.int j) = some (.int (i - j)) := rfl
theorem dAddI_int (i j : Int) : dAddI (.int i) (.int j) = some (.int (i + j)) := rfl
theorem dEq_int (i j : Int) : dEq (.int i) (.int j) = some (.bool (i == j)) := by simp [dEq, dEqB, sc2, PyData.eqv]
theorem dEq_str (i j : Str) : dEq (.str i) (.str j) = some (.bool (i == j)) := by simp [dEq, dEqB, sc2, PyData.eqv]
theorem dNe_int (i j : Int) : dNe (.int i) (.int j) = some (.bool (!(i == j))) := by simp [dNe, dEqB, sc2, PyData.eqv]
theorem dNe_str (i j : Str) : dNe (.str i) (.str j) = some (.bool (!(i == j))) := by simp [dNe, dEqB, sc2, PyData.eqv]
theorem dEq_bool (i j : Bool) : dEq (.bool i) (.bool j) = some (.bool (i == j)) := by simp [dEq, dEqB, sc2, PyData.eqv]
theorem dNe_bool (i j : Bool) : dNe (.bool i) (.bool j) = some (.bool (!(i == j))) := by simp [dNe, dEqB, sc2, PyData.eqv]
theorem sl_of {n : Nat} (h : n ≤ 1000000) : n ≤ sizeLine := by rw [sizeLine_eq]; omega
theorem sl0 : 0 ≤ sizeLine := sl_of (by decide)
theorem sl1 : 1 ≤ sizeLine := sl_of (by decide)
theorem sl2 : 2 ≤ sizeLine := sl_of (by decide)
theorem sl3 : 3 ≤ sizeLine := sl_of (by decide)
theorem sl4 : 4 ≤ sizeLine := sl_of (by decide)
theorem sl5 : 5 ≤ sizeLine := sl_of (by decide)
theorem sl6 : 6 ≤ sizeLine := sl_of (by decide)
theorem sl7 : 7 ≤ sizeLine := sl_of (by decide)
theorem sl8 : 8 ≤ sizeLine := sl_of (by decide)
theorem sl9 : 9 ≤ sizeLine := sl_of (by decide)
theorem sl10 : 10 ≤ sizeLine := sl_of (by decide)
theorem sl11 : 11 ≤ sizeLine := sl_of (by decide)
theorem sl12 : 12 ≤ sizeLine := sl_of (by decide)
/-- a loop by an invariant over the turn's number -/
theorem loopF_inv {T : Type} {bd : PyData → En → Option En} {F : En → T → Option (Out T)} (I : Nat → En → T → Prop) {items : List PyData} {ρ : En} {g : T}
    (hs : ∀ i d ρ g, items[i]? = some d → I i ρ g → ∃ ρ1 ρ2 g2, bd d ρ = some ρ1 ∧ F ρ1 g = some (.nx ρ2 g2) ∧ I (i + 1) ρ2 g2) (h : I 0 ρ g) :
    ∃ ρ2 g2, loopF bd F items ρ g = some (.nx ρ2 g2) ∧ I items.length ρ2 g2 := by
  have key : ∀ (rs : List PyData) (i : Nat) (ρ : En) (g : T), items.drop i = rs → I i ρ g → ∃ ρ2 g2, loopF bd F rs ρ g = some (.nx ρ2 g2) ∧ I (i + rs.length) ρ2 g2 := by
    intro rs
    induction rs with
    | nil => intro i ρ g _ h; exact ⟨ρ, g, rfl, h⟩
    | cons d rs ih =>
      intro i ρ g e h
      have hi : items[i]? = some d := by
        have : (items.drop i)[0]? = some d := by rw [e]; rfl
        simpa using this
      obtain ⟨ρ1, ρ2, g2, h1, h2, h3⟩ := hs i d ρ g hi h
      have e2 : items.drop (i + 1) = rs := by
        rw [← List.drop_drop, e]; rfl
      obtain ⟨ρ3, g3, h4, h5⟩ := ih (i + 1) ρ2 g2 e2 h3
      refine ⟨ρ3, g3, ?_, ?_⟩
      · unfold loopF; rw [h1]; simp only [h2]; exact h4
      · rw [List.length_cons]
        have : i + (rs.length + 1) = i + 1 + rs.length := by omega
        rw [this]; exact h5
  have := key items 0 ρ g (by simp) h
  simpa using this
theorem rangeD_get {lo : Int} {n i : Nat} {d : PyData} (h : (rangeD lo n)[i]? = some d) : d = .int (lo + (i : Int)) ∧ i < n := by
  unfold rangeD at h
  simp only [List.getElem?_map, Option.map_eq_some_iff] at h
  obtain ⟨j, hj, rfl⟩ := h
  obtain ⟨h1, h2⟩ := List.getElem?_eq_some_iff.mp hj
  have h3 : i < n := by simpa using h1
  rw [List.getElem_range] at h2
  subst h2
  exact ⟨rfl, h3⟩
/-! ### the draws -/
def dr_turn : Fst G0 := (sIf (fB (f2 dGt (fVar 6) (fC (.int 0)))) (sSeq (sApp 2 (f2 dMod (fB1 (d1 dInt1) (fCons (fVar 6) fNil)) (fC (.int 997)))) (sSetH [2] 6 (f2 dDiv (fVar 6) (fC (.int 997))))) sSkip)
def dr_in : Fst G0 := (sForH [2] (fRange1 (fC (.int 60))) (bName 7) dr_turn)
def dr_if : Fst G0 := (sIf (fB (f2 dGe (fVar 5) (f2 dPow (fC (.int 10)) (fC (.int 18))))) (sSetH [2] 6 (fVar 5)) (sSeq (sApp 2 (f2 dMod (fB1 (d1 dInt1) (fCons (fVar 5) fNil)) (fC (.int 997)))) (sApp 2 (f2 dMod (f2 dMod (fB1 (d1 dInt1) (fCons (f2 dAdd (f2 dMul (fVar 3) (fC (.int 69621))) (fC (.int 5))) fNil)) (fC (.int 65521))) (fC (.int 997))))))
def dr_body : Fst G0 := (sSeq (sSetH [2] 5 (fB1 (d1 dAbs1) (fCons (fB1 (d1 dInt1) (fCons (f2 dIx (fVar 0) (fVar 4)) fNil)) fNil))) (sSeq (sSetH [2] 3 (f2 dMod (fB1 (d1 dInt1) (fCons (f2 dAdd (f2 dAdd (f2 dMul (fVar 3) (fC (.int 48271))) (f2 dMod (fVar 5) (fC (.int 1000003)))) (fVar 4)) fNil)) (fC (.int 65537)))) (sSeq (sSetH [2] 6 (fC (.int 0))) (sSeq dr_if dr_in))))
def dr_more : Fst G0 := (sSeq (sSetH [2] 3 (f2 dMod (fB1 (d1 dInt1) (fCons (f2 dAdd (f2 dAdd (f2 dMul (fVar 3) (fC (.int 16807))) (fVar 4)) (fC (.int 1))) fNil)) (fC (.int 65537)))) (sApp 2 (f2 dMod (fB1 (d1 dInt1) (fCons (fVar 3) fNil)) (fC (.int 997)))))
def F_draws : Fst G0 :=
  (sSeq (sSetN 2 (fLst fNil)) (sSeq (sSetH [2] 3 (fC (.int 7))) (sSeq (sForH [2] (fRange1 (fB1 dLen (fCons (fVar 0) fNil))) (bName 4) dr_body) (sSeq (sForH [2] (fRange1 (fVar 1)) (bName 4) dr_more) (sRetN (fSlL (fVar 2) (fPart none) (fPart (some (fVar 1)))))))))
local macro_rules | `(tactic| walk_at "ev0") => `(tactic| simp only [enter, List.length_cons, List.length_nil, List.replicate, List.cons_append, List.nil_append, sSeq, Nat.zero_add, Nat.reduceAdd, Nat.reduceSub])
local macro_rules | `(tactic| walk_at "ev") => `(tactic| try simp only [semP, semPN, semG, semGN, enter, outR, List.length_cons, List.length_nil, List.replicate, List.cons_append, List.nil_append, sSeq, sIf, sRet, sRetN, sRetO, sSkip, sSetH, sSet, sSetN, sAsgH, sAsg, sApp, sAppH, sDo, hide_nil, hide, hideAux, bName, bTup, bCons, bNil, fVar, fC, f1, f2, fIf, fB, fAnd, fOr, fNot, fAndV, fOrV, fNotV, fN, fTup, fLst, fNil, fCons, fConsR, fSl, fSlL, fPart, fB1, fB1N, fCall, fCallP, fCallPN, fCallN, fItems, fRange1, dItems, mb_some, mb_none, mp_some, mp_none, agD, Option.map_some, Option.map_none, Option.bind_some, d1, d2, l1, dLen1, dInt1, dAbs1, dTuple1, dIx, dEq_int, dEq_str, dNe_int, dNe_str, dEq_bool, dNe_bool, dGe_int, dGt_int, dLt_int, dLe_int, dAdd_int, dSub_int, dAddI_int, imm, immL, atI_0, atI_1, atI_2, atI_3, List.getElem?_cons_zero, List.getElem?_cons_succ, List.set_cons_zero, List.set_cons_succ, if_true, if_false, Bool.false_eq_true, reduceIte, decide_true, decide_false, true_and, and_true, and_self, not_true_eq_false, not_false_eq_true, Nat.zero_add, Nat.reduceAdd, Nat.reduceSub, Nat.reduceEqDiff, List.contains_cons, List.contains_nil, Nat.reduceBEq, Bool.or_false, Bool.false_or, Bool.true_or, Bool.or_true, Bool.and_true, Bool.true_and, sizeLine_eq, Nat.reduceLeDiff])
local macro_rules | `(tactic| walk_at "evh") => `(tactic| try simp only [semP, semPN, semG, semGN, enter, outR, List.length_cons, List.length_nil, List.replicate, List.cons_append, List.nil_append, sSeq, sIf, sRet, sRetN, sRetO, sSkip, sSetH, sSet, sSetN, sAsgH, sAsg, sApp, sAppH, sDo, hide_nil, hide, hideAux, bName, bTup, bCons, bNil, fVar, fC, f1, f2, fIf, fB, fAnd, fOr, fNot, fAndV, fOrV, fNotV, fN, fTup, fLst, fNil, fCons, fConsR, fSl, fSlL, fPart, fB1, fB1N, fCall, fCallP, fCallPN, fCallN, fItems, fRange1, dItems, mb_some, mb_none, mp_some, mp_none, agD, Option.map_some, Option.map_none, Option.bind_some, d1, d2, l1, dLen1, dInt1, dAbs1, dTuple1, dIx, dEq_int, dEq_str, dNe_int, dNe_str, dEq_bool, dNe_bool, dGe_int, dGt_int, dLt_int, dLe_int, dAdd_int, dSub_int, dAddI_int, imm, immL, atI_0, atI_1, atI_2, atI_3, List.getElem?_cons_zero, List.getElem?_cons_succ, List.set_cons_zero, List.set_cons_succ, if_true, if_false, Bool.false_eq_true, reduceIte, decide_true, decide_false, true_and, and_true, and_self, not_true_eq_false, not_false_eq_true, Nat.zero_add, Nat.reduceAdd, Nat.reduceSub, Nat.reduceEqDiff, List.contains_cons, List.contains_nil, Nat.reduceBEq, Bool.or_false, Bool.false_or, Bool.true_or, Bool.or_true, Bool.and_true, Bool.true_and, sizeLine_eq, Nat.reduceLeDiff, *])
theorem immL_ints : ∀ l : List Int, immL (l.map PyData.int) = true
  | [] => rfl
  | x :: xs => by simp [immL, imm, immL_ints xs]
def drE (ns : List Int) (many : Int) (acc : List Int) (mixed : Int) (x4 x5 x6 x7 : Ag) : En := [.d (.list (ns.map .int)), .d (.int many), .d (.list (acc.map .int)), .d (.int mixed), x4, x5, x6, x7]
def Bnd (acc : List Int) : Prop := ∀ x ∈ acc, 0 ≤ x ∧ x < 997
theorem Bnd.snoc {acc : List Int} (h : Bnd acc) (v : Int) : Bnd (acc ++ [v % 997]) := fun x hx => by
  rcases List.mem_append.mp hx with hx | hx
  · exact h x hx
  · have : x = v % 997 := by simpa using hx
    subst this
    exact ⟨Int.emod_nonneg _ (by decide), Int.emod_lt_of_pos _ (by decide)⟩
theorem snoc_map (acc : List Int) (v : Int) : acc.map PyData.int ++ [PyData.int v] = (acc ++ [v]).map PyData.int := by simp
theorem len_map_int (acc : List Int) : (acc.map PyData.int).length = acc.length := List.length_map _
theorem dr_turn_ok {ns : List Int} {many : Int} {acc : List Int} {mixed rest : Int} {x4 x5 x7 : Ag} (hr : 0 ≤ rest) (hb : Bnd acc) (hl : acc.length < 16777216) (g : G0.T) :
    ∃ acc' rest', dr_turn (drE ns many acc mixed x4 x5 (.d (.int rest)) x7) g = some (.nx (drE ns many acc' mixed x4 x5 (.d (.int rest')) x7) g) ∧ 0 ≤ rest' ∧ Bnd acc' ∧ acc'.length ≤ acc.length + 1 := by
  unfold dr_turn drE
  by_cases h : 0 < rest
  · refine ⟨acc ++ [rest % 997], rest / 997, ?_, Int.ediv_nonneg hr (by decide), hb.snoc rest, by simp⟩
    have e1 : dDiv (.int rest) (.int 997) = some (.int (rest / 997)) := dDiv_small (by decide) (by decide)
    have e2 : dMod (.int rest) (.int 997) = some (.int (rest % 997)) := dMod_pos (by decide)
    have e3 : (List.map PyData.int acc).length < 16777216 := by rw [len_map_int]; exact hl
    walk_at "evh"
    simp only [snoc_map]
  · refine ⟨acc, rest, ?_, hr, hb, by omega⟩
    walk_at "evh"
theorem dr_in_ok {ns : List Int} {many : Int} {acc : List Int} {mixed rest : Int} {x4 x5 x7 : Ag} (hr : 0 ≤ rest) (hb : Bnd acc) (hl : acc.length < 1000000) (g : G0.T) :
    ∃ acc' rest' y7, dr_in (drE ns many acc mixed x4 x5 (.d (.int rest)) x7) g = some (.nx (drE ns many acc' mixed x4 x5 (.d (.int rest')) y7) g) ∧ 0 ≤ rest' ∧ Bnd acc' ∧ acc'.length ≤ acc.length + 60 := by
  have key := loopF_inv (T := G0.T) (bd := bName 7) (F := dr_turn) (items := rangeD 0 60) (ρ := drE ns many acc mixed x4 x5 (.d (.int rest)) x7) (g := g)
    (fun i ρ g' => g' = g ∧ ∃ acc' rest' y7, ρ = drE ns many acc' mixed x4 x5 (.d (.int rest')) y7 ∧ 0 ≤ rest' ∧ Bnd acc' ∧ acc'.length ≤ acc.length + i) ?_ ⟨rfl, acc, rest, x7, rfl, hr, hb, by omega⟩
  · obtain ⟨ρ2, g2, h1, rfl, acc', rest', y7, rfl, h2, h3, h4⟩ := key
    refine ⟨acc', rest', y7, ?_, h2, h3, by simpa [rangeD] using h4⟩
    unfold dr_in sForH
    simp only [fRange1, fC, mb_some, hide, drE] at h1 ⊢
    exact h1
  · intro i d ρ g' hd hI
    obtain ⟨rfl, acc', rest', y7, rfl, h2, h3, h4⟩ := hI
    obtain ⟨_, hi⟩ := rangeD_get hd
    obtain ⟨a2, r2, h5, h6, h7, h8⟩ := dr_turn_ok (ns := ns) (many := many) (mixed := mixed) (x4 := x4) (x5 := x5) (x7 := .d d) h2 h3 (by omega) g'
    refine ⟨_, _, _, rfl, h5, rfl, a2, r2, .d d, rfl, h6, h7, by omega⟩
theorem dr_if_ok {ns : List Int} {many : Int} {acc : List Int} {mixed x : Int} {x4 x6 x7 : Ag} (hx : 0 ≤ x) (hm : 0 ≤ mixed ∧ mixed < 65537) (hb : Bnd acc) (hl : acc.length < 100000) (g : G0.T) :
    ∃ acc' rest', dr_if (drE ns many acc mixed x4 (.d (.int x)) (.d (.int 0)) x7) g = some (.nx (drE ns many acc' mixed x4 (.d (.int x)) (.d (.int rest')) x7) g) ∧ 0 ≤ rest' ∧ Bnd acc' ∧ acc'.length ≤ acc.length + 2 := by
  unfold dr_if drE
  have e1 : dPow (.int 10) (.int 18) = some (.int 1000000000000000000) := rfl
  by_cases h : 1000000000000000000 ≤ x
  · refine ⟨acc, x, ?_, hx, hb, by omega⟩
    walk_at "evh"
  · refine ⟨acc ++ [x % 997] ++ [(mixed * 69621 + 5) % 65521 % 997], 0, ?_, by decide, (hb.snoc _).snoc _, by simp⟩
    have e2 : dMod (.int x) (.int 997) = some (.int (x % 997)) := dMod_pos (by decide)
    have e3 : dMul (.int mixed) (.int 69621) = some (.int (mixed * 69621)) := dMul_small (by omega) (by decide)
    have e4 : dMod (.int (mixed * 69621 + 5)) (.int 65521) = some (.int ((mixed * 69621 + 5) % 65521)) := dMod_pos (by decide)
    have e5 : dMod (.int ((mixed * 69621 + 5) % 65521)) (.int 997) = some (.int ((mixed * 69621 + 5) % 65521 % 997)) := dMod_pos (by decide)
    have l1 : (List.map PyData.int acc).length < 16777216 := by rw [len_map_int]; omega
    have l2 : (List.map PyData.int acc ++ [PyData.int (x % 997)]).length < 16777216 := by rw [List.length_append, len_map_int]; simp; omega
    walk_at "evh"
    simp [List.map_append]
theorem dr_body_ok {ns : List Int} {many : Int} {acc : List Int} {mixed : Int} {i : Nat} {x5 x6 x7 : Ag} (hi : i < ns.length) (hn : ns.length ≤ 100000) (hm : 0 ≤ mixed ∧ mixed < 65537) (hb : Bnd acc) (hl : acc.length < 100000) (g : G0.T) :
    ∃ acc' mixed' y5 y6 y7, dr_body (drE ns many acc mixed (.d (.int i)) x5 x6 x7) g = some (.nx (drE ns many acc' mixed' (.d (.int i)) y5 y6 y7) g) ∧ (0 ≤ mixed' ∧ mixed' < 65537) ∧ Bnd acc' ∧ acc'.length ≤ acc.length + 62 := by
  have ei : atI (ns.map PyData.int) (i : Int) = some (.int ns[i]) := atI_nat (by simp [hi])
  have e3 : dMul (.int mixed) (.int 48271) = some (.int (mixed * 48271)) := dMul_small (by omega) (by decide)
  have e4 : dMod (.int (ns[i]).natAbs) (.int 1000003) = some (.int (((ns[i]).natAbs : Int) % 1000003)) := dMod_pos (by decide)
  have e5 : dMod (.int (mixed * 48271 + ((ns[i]).natAbs : Int) % 1000003 + i)) (.int 65537) = some (.int ((mixed * 48271 + ((ns[i]).natAbs : Int) % 1000003 + i) % 65537)) := dMod_pos (by decide)
  obtain ⟨a1, r1, h1, h2, h3, h4⟩ := dr_if_ok (ns := ns) (many := many) (acc := acc) (mixed := (mixed * 48271 + ((ns[i]).natAbs : Int) % 1000003 + i) % 65537) (x := (ns[i]).natAbs) (x4 := .d (.int i)) (x6 := x6) (x7 := x7) (by omega) ⟨Int.emod_nonneg _ (by decide), Int.emod_lt_of_pos _ (by decide)⟩ hb hl g
  obtain ⟨a2, r2, y7, h5, h6, h7, h8⟩ := dr_in_ok (ns := ns) (many := many) (acc := a1) (mixed := (mixed * 48271 + ((ns[i]).natAbs : Int) % 1000003 + i) % 65537) (rest := r1) (x4 := .d (.int i)) (x5 := .d (.int (ns[i]).natAbs)) (x7 := x7) h2 h3 (by omega) g
  refine ⟨a2, (mixed * 48271 + ((ns[i]).natAbs : Int) % 1000003 + i) % 65537, .d (.int (ns[i]).natAbs), .d (.int r2), y7, ?_, ⟨Int.emod_nonneg _ (by decide), Int.emod_lt_of_pos _ (by decide)⟩, h7, by omega⟩
  have ea : dAbs1 (.int ns[i]) = some (.int (ns[i]).natAbs) := by
    simp only [dAbs1]; congr 2; split <;> omega
  have ea2 : ((if ns[i] < 0 then -ns[i] else ns[i]) : Int) = ((ns[i]).natAbs : Int) := by split <;> omega
  unfold dr_body
  unfold drE at h1 h5 ⊢
  walk_at "evh"
theorem dr_more_ok {ns : List Int} {many : Int} {acc : List Int} {mixed : Int} {i : Nat} {x5 x6 x7 : Ag} (hm : 0 ≤ mixed ∧ mixed < 65537) (hb : Bnd acc) (hl : acc.length < 10000000) (g : G0.T) :
    ∃ acc' mixed', dr_more (drE ns many acc mixed (.d (.int i)) x5 x6 x7) g = some (.nx (drE ns many acc' mixed' (.d (.int i)) x5 x6 x7) g) ∧ (0 ≤ mixed' ∧ mixed' < 65537) ∧ Bnd acc' ∧ acc'.length = acc.length + 1 := by
  have e3 : dMul (.int mixed) (.int 16807) = some (.int (mixed * 16807)) := dMul_small (by omega) (by decide)
  have e5 : dMod (.int (mixed * 16807 + i + 1)) (.int 65537) = some (.int ((mixed * 16807 + i + 1) % 65537)) := dMod_pos (by decide)
  have e6 : dMod (.int ((mixed * 16807 + i + 1) % 65537)) (.int 997) = some (.int ((mixed * 16807 + i + 1) % 65537 % 997)) := dMod_pos (by decide)
  have l1 : (List.map PyData.int acc).length < 16777216 := by rw [len_map_int]; omega
  refine ⟨acc ++ [(mixed * 16807 + i + 1) % 65537 % 997], (mixed * 16807 + i + 1) % 65537, ?_, ⟨Int.emod_nonneg _ (by decide), Int.emod_lt_of_pos _ (by decide)⟩, hb.snoc _, by simp⟩
  unfold dr_more drE
  walk_at "evh"
  simp only [snoc_map]
theorem okR_nat {n : Nat} (h : n ≤ 1000000) : okR (n : Int) = true := by
  unfold okR
  apply decide_eq_true
  omega
theorem dr_loop1 {ns : List Int} {many : Int} (hn : ns.length ≤ 63) : ∃ a1 m1 z4 z5 z6 z7, loopF (T := G0.T) (bName 4) dr_body (rangeD 0 ns.length) (drE ns many [] 7 .no .no .no .no) () = some (.nx (drE ns many a1 m1 z4 z5 z6 z7) ()) ∧ (0 ≤ m1 ∧ m1 < 65537) ∧ Bnd a1 ∧ a1.length ≤ 62 * (rangeD 0 ns.length).length := by
  obtain ⟨ρ1, g1, h1, h2⟩ := loopF_inv (T := G0.T) (bd := bName 4) (F := dr_body) (items := rangeD 0 ns.length) (ρ := drE ns many [] 7 .no .no .no .no) (g := ())
    (fun i ρ g' => g' = () ∧ ∃ acc mixed z4 z5 z6 z7, ρ = drE ns many acc mixed z4 z5 z6 z7 ∧ (0 ≤ mixed ∧ mixed < 65537) ∧ Bnd acc ∧ acc.length ≤ 62 * i) (by
      intro i d ρ g' hd hI
      obtain ⟨rfl, acc, mixed, z4, z5, z6, z7, rfl, c1, c2, c3⟩ := hI
      obtain ⟨rfl, hi⟩ := rangeD_get hd
      obtain ⟨a, m, y5, y6, y7, e1, e2, e3, e4⟩ := dr_body_ok (ns := ns) (many := many) (x5 := z5) (x6 := z6) (x7 := z7) hi (by omega) c1 c2 (by omega) ()
      rw [Int.zero_add]
      exact ⟨_, _, _, rfl, e1, rfl, a, m, _, y5, y6, y7, rfl, e2, e3, by omega⟩) ⟨rfl, [], 7, .no, .no, .no, .no, rfl, ⟨by decide, by decide⟩, (fun x (hx : x ∈ []) => by cases hx), Nat.zero_le _⟩
  obtain ⟨rfl, a1, m1, z4, z5, z6, z7, rfl, b1, b2, b3⟩ := h2
  exact ⟨a1, m1, z4, z5, z6, z7, h1, b1, b2, b3⟩
theorem dr_loop2 {ns : List Int} {many : Int} {n : Nat} (hn : n ≤ 1000000) {a1 : List Int} {m1 : Int} {z4 z5 z6 z7 : Ag} (b1 : 0 ≤ m1 ∧ m1 < 65537) (b2 : Bnd a1) (hl : a1.length < 100000) :
    ∃ a2 m2 w4, loopF (T := G0.T) (bName 4) dr_more (rangeD 0 n) (drE ns many a1 m1 z4 z5 z6 z7) () = some (.nx (drE ns many a2 m2 w4 z5 z6 z7) ()) ∧ Bnd a2 ∧ a2.length = a1.length + (rangeD 0 n).length := by
  obtain ⟨ρ2, g2, h2, h3⟩ := loopF_inv (T := G0.T) (bd := bName 4) (F := dr_more) (items := rangeD 0 n) (ρ := drE ns many a1 m1 z4 z5 z6 z7) (g := ())
    (fun i ρ g' => g' = () ∧ ∃ acc mixed w4, ρ = drE ns many acc mixed w4 z5 z6 z7 ∧ (0 ≤ mixed ∧ mixed < 65537) ∧ Bnd acc ∧ acc.length = a1.length + i) (by
      intro i d ρ g' hd hI
      obtain ⟨rfl, acc, mixed, w4, rfl, c1, c2, c3⟩ := hI
      obtain ⟨rfl, hi⟩ := rangeD_get hd
      obtain ⟨a, m, e1, e2, e3, e4⟩ := dr_more_ok (ns := ns) (many := many) (i := i) (x5 := z5) (x6 := z6) (x7 := z7) c1 c2 (by omega) ()
      rw [Int.zero_add]
      exact ⟨_, _, _, rfl, e1, rfl, a, m, _, rfl, e2, e3, by omega⟩) ⟨rfl, a1, m1, z4, rfl, b1, b2, rfl⟩
  obtain ⟨rfl, a2, m2, w4, rfl, d1, d2, d3⟩ := h3
  exact ⟨a2, m2, w4, h2, d2, d3⟩
theorem sForH_of {G : Gh} {O : List Nat} {f : En → G.T → Option (List PyData × G.T)} {bd : PyData → En → Option En} {F : Fst G} {ρ : En} {g g' : G.T} {ds : List PyData} (e : f (hide O ρ) g = some (ds, g')) : sForH O f bd F ρ g = loopF bd F ds ρ g' := by
  unfold sForH; rw [e]
theorem fRange1_if {G : Gh} {f : Fe G} {ρ : En} {g g' : G.T} {j : Int} (e : f ρ g = some (.int j, g')) (h : okR j = true ∧ j.toNat ≤ sizeLine) : fRange1 f ρ g = some (rangeD 0 j.toNat, g') := by
  unfold fRange1
  rw [e]
  simp only [mb_some]
  rw [if_pos h]
theorem toNat_le {n : Nat} (h : n ≤ sizeLine) : (n : Int).toNat ≤ sizeLine := by rw [Int.toNat_natCast]; exact h
theorem sizeLine_le {n : Nat} (h : n ≤ 1000000) : n ≤ sizeLine := by rw [sizeLine_eq]; omega
theorem okR_len {n : Nat} (hn : n ≤ 1000000) : okR (n : Int) = true ∧ (n : Int).toNat ≤ sizeLine := ⟨okR_nat hn, toNat_le (sizeLine_le hn)⟩
theorem fRange1_of {G : Gh} {f : Fe G} {ρ : En} {g g' : G.T} {n : Nat} (e : f ρ g = some (.int n, g')) (hn : n ≤ 1000000) : fRange1 f ρ g = some (rangeD 0 n, g') := 
  (fRange1_if e (okR_len hn)).trans (congrArg (fun z => some (rangeD 0 z, g')) (Int.toNat_natCast n))
theorem dr_for1 {ns : List Int} {many : Int} (hn : ns.length ≤ 63) : sForH (G := G0) [2] (fRange1 (fB1 dLen (fCons (fVar 0) fNil))) (bName 4) dr_body (drE ns many [] 7 .no .no .no .no) () = loopF (T := G0.T) (bName 4) dr_body (rangeD 0 ns.length) (drE ns many [] 7 .no .no .no .no) () := by
  apply sForH_of
  apply fRange1_of _ (by omega)
  unfold drE
  walk_at "evh"
  rw [len_map_int]
theorem dr_for2 {ns : List Int} {many : Nat} (hn : many ≤ 1000000) {a1 : List Int} {m1 : Int} {z4 z5 z6 z7 : Ag} :
    sForH (G := G0) [2] (fRange1 (fVar 1)) (bName 4) dr_more (drE ns many a1 m1 z4 z5 z6 z7) () = loopF (T := G0.T) (bName 4) dr_more (rangeD 0 many) (drE ns many a1 m1 z4 z5 z6 z7) () := by
  apply sForH_of
  exact fRange1_of rfl hn
theorem sSeq_nx {G : Gh} {F F' : Fst G} {ρ ρ' : En} {g g' : G.T} (h : F ρ g = some (.nx ρ' g')) : sSeq F F' ρ g = F' ρ' g' := by
  unfold sSeq; rw [h]
theorem draws_q {ns : List Int} {many : Nat} {a1 a2 : List Int} {m1 m2 : Int} {z4 z5 z6 z7 w4 : Ag} (hn : ns.length ≤ 63) (hm : many ≤ 1000000)
   (h1 : loopF (T := G0.T) (bName 4) dr_body (rangeD 0 ns.length) (drE ns many [] 7 .no .no .no .no) () = some (.nx (drE ns many a1 m1 z4 z5 z6 z7) ()))
   (h2 : loopF (T := G0.T) (bName 4) dr_more (rangeD 0 many) (drE ns many a1 m1 z4 z5 z6 z7) () = some (.nx (drE ns many a2 m2 w4 z5 z6 z7) ())) : 
   F_draws (enter 8 [.d (.list (ns.map .int)), .d (.int many)]) () = some (.rt (.list ((a2.take many).map .int)) ()) := by
  have q1 := (dr_for1 (ns := ns) (many := many) hn).trans h1
  have q2 := (dr_for2 (ns := ns) (many := many) hm).trans h2
  have l4 : cutD (a2.map PyData.int) none (some (many : Int)) = (a2.take many).map .int := by rw [cut_to, List.map_take]
  have l5 : immL ((a2.take many).map .int) = true := immL_ints _
  unfold F_draws
  rw [sSeq_nx (ρ' := [.d (.list (ns.map .int)), .d (.int many), .d (.list []), .no, .no, .no, .no, .no]) (g' := ()) rfl]
  rw [sSeq_nx (ρ' := drE ns many [] 7 .no .no .no .no) (g' := ()) rfl]
  rw [sSeq_nx (G := G0) q1, sSeq_nx (G := G0) q2]
  unfold sRetN fSlL
  have e0 : (fVar 2 : Fe G0) (drE ns many a2 m2 w4 z5 z6 z7) () = some (.list (a2.map .int), ()) := rfl
  have e1 : (fPart (some (fVar 1)) : En → G0.T → Option (Option Int × G0.T)) (drE ns many a2 m2 w4 z5 z6 z7) () = some (some (many : Int), ()) := rfl
  have e2 : (fPart none : En → G0.T → Option (Option Int × G0.T)) (drE ns many a2 m2 w4 z5 z6 z7) () = some (none, ()) := rfl
  simp only [e0, e1, e2, mb_some, dSlL, mp_some, l4, l5, if_true]
theorem draws_s {ns : List Int} {many : Nat} {a2 : List Int} (h : F_draws (enter 8 [.d (.list (ns.map .int)), .d (.int many)]) () = some (.rt (.list ((a2.take many).map .int)) ())) : 
   semPN 2 8 F_draws [.d (.list (ns.map .int)), .d (.int many)] = some ((a2.take many).map .int) := by
  unfold semPN
  rw [h]
  rfl
theorem draws_ok {ns : List Int} {many : Nat} (hn : ns.length ≤ 63) (hm : many ≤ 1000000) :
    ∃ is : List Int, semPN 2 8 F_draws [.d (.list (ns.map .int)), .d (.int many)] = some (is.map .int) ∧ Bnd is ∧ is.length = many := by
  obtain ⟨a1, m1, z4, z5, z6, z7, h1, b1, b2, b3⟩ := dr_loop1 (ns := ns) (many := many) hn
  have k1 : (rangeD 0 ns.length).length = ns.length := by simp [rangeD]
  have k2 : (rangeD 0 many).length = many := by simp [rangeD]
  obtain ⟨a2, m2, w4, h2, d2, d3⟩ := dr_loop2 (ns := ns) (many := many) (n := many) hm (z4 := z4) (z5 := z5) (z6 := z6) (z7 := z7) b1 b2 (by omega)
  exact ⟨a2.take many, draws_s (draws_q hn hm h1 h2), fun x hx => d2 x (List.mem_of_mem_take hx), by rw [List.length_take]; omega⟩
end DL

set_option Elab.async false
set_option linter.all false
set_option maxRecDepth 100000
set_option maxHeartbeats 4000000
namespace DL
open PySem L2
/-! ## plain lemmas on lists, shared by the laws -/
/-- a point -/
def np (p : Nat) : PyData := .int (p : Int)
theorem eqv_np (a b : Nat) : PyData.eqv (np a) (np b) = decide (a = b) := by
  simp only [np, PyData.eqv]
  rw [Bool.eq_iff_iff]; simp; omega
theorem eqv_str (a b : Str) : PyData.eqv (.str a) (.str b) = (a == b) := by simp [PyData.eqv]
theorem eqv_bool (a b : Bool) : PyData.eqv (.bool a) (.bool b) = (a == b) := by simp [PyData.eqv]
theorem compF_map {T α : Type} {bd : PyData → En → Option En} {ft : En → T → Option (Bool × T)} {fe : En → T → Option (PyData × T)} {ρ : En} {g : T} (e : α → PyData) (t : α → Bool) (f : α → PyData) :
    ∀ xs : List α, (∀ x ∈ xs, ∃ ρ1, bd (e x) ρ = some ρ1 ∧ ft ρ1 g = some (t x, g) ∧ (t x = true → fe ρ1 g = some (f x, g))) → compF bd ft fe ρ (xs.map e) g = some ((xs.filter t).map f, g)
  | [], _ => rfl
  | x :: xs, h => by
    obtain ⟨ρ1, h1, h2, h3⟩ := h x List.mem_cons_self
    have ih := compF_map e t f xs fun y hy => h y (List.mem_cons_of_mem _ hy)
    rw [List.map_cons]
    unfold compF
    simp only [h1, h2, mb_some]
    cases ht : t x with
    | true => simp only [if_true, h3 ht, mb_some, ih, List.filter_cons, ht, List.map_cons]
    | false => simp only [Bool.false_eq_true, if_false, ih, List.filter_cons, ht]
/-- a comprehension that draws -/
theorem compF_run {T α : Type} {bd : PyData → En → Option En} {ft : En → T → Option (Bool × T)} {fe : En → T → Option (PyData × T)} {ρ : En} {P : α → PyData → Prop} (e : α → PyData) :
    ∀ xs : List α, (∀ x ∈ xs, ∀ g, ∃ ρ1, bd (e x) ρ = some ρ1 ∧ ∃ b g1, ft ρ1 g = some (b, g1) ∧ (b = true → ∃ y g2, fe ρ1 g1 = some (y, g2) ∧ P x y)) →
    ∀ g, ∃ ys g2, compF bd ft fe ρ (xs.map e) g = some (ys, g2) ∧ ys.length ≤ xs.length ∧ ∀ y ∈ ys, ∃ x ∈ xs, P x y
  | [], _, g => ⟨[], g, rfl, by simp, by simp⟩
  | x :: xs, h, g => by
    obtain ⟨ρ1, h1, b, g1, h2, h3⟩ := h x List.mem_cons_self g
    have ih := compF_run e xs fun y hy => h y (List.mem_cons_of_mem _ hy)
    rw [List.map_cons]
    unfold compF
    simp only [h1, h2, mb_some]
    cases b with
    | true =>
      obtain ⟨y, g2, h4, h5⟩ := h3 rfl
      obtain ⟨ys, g3, h6, h7, h8⟩ := ih g2
      refine ⟨y :: ys, g3, by simp only [if_true, h4, mb_some, h6], by simp; omega, fun z hz => ?_⟩
      rcases List.mem_cons.mp hz with rfl | hz
      · exact ⟨x, List.mem_cons_self, h5⟩
      · obtain ⟨x', hx', hp⟩ := h8 z hz
        exact ⟨x', List.mem_cons_of_mem _ hx', hp⟩
    | false =>
      obtain ⟨ys, g3, h6, h7, h8⟩ := ih g1
      refine ⟨ys, g3, by simp only [Bool.false_eq_true, if_false, h6], by simp; omega, fun z hz => ?_⟩
      obtain ⟨x', hx', hp⟩ := h8 z hz
      exact ⟨x', List.mem_cons_of_mem _ hx', hp⟩
/-- a comprehension that draws and keeps all -/
theorem compF_all {T α : Type} {bd : PyData → En → Option En} {fe : En → T → Option (PyData × T)} {ρ : En} {P : PyData → Prop} (e : α → PyData) :
    ∀ xs : List α, (∀ x ∈ xs, ∀ g, ∃ ρ1, bd (e x) ρ = some ρ1 ∧ ∃ y g2, fe ρ1 g = some (y, g2) ∧ P y) →
    ∀ g, ∃ ys g2, compF bd (fun _ g => some (true, g)) fe ρ (xs.map e) g = some (ys, g2) ∧ ys.length = xs.length ∧ ∀ y ∈ ys, P y
  | [], _, g => ⟨[], g, rfl, by simp, by simp⟩
  | x :: xs, h, g => by
    obtain ⟨ρ1, h1, y, g2, h4, h5⟩ := h x List.mem_cons_self g
    have ih := compF_all (P := P) e xs fun y hy => h y (List.mem_cons_of_mem _ hy)
    rw [List.map_cons]
    unfold compF
    simp only [h1, mb_some]
    obtain ⟨ys, g3, h6, h7, h8⟩ := ih g2
    refine ⟨y :: ys, g3, by simp only [if_true, h4, mb_some, h6], by simp; omega, fun z hz => ?_⟩
    rcases List.mem_cons.mp hz with rfl | hz
    · exact h5
    · exact h8 z hz
theorem allB_map : ∀ bs : List Bool, allB (bs.map .bool) = some bs
  | [] => rfl
  | b :: bs => by simp [allB, allB_map bs]
theorem allI_map : ∀ bs : List Int, allI (bs.map .int) = some bs
  | [] => rfl
  | b :: bs => by simp [allI, allI_map bs]
theorem allP_map : ∀ bs : List (Int × Int), allP (bs.map pD) = some bs
  | [] => rfl
  | (a, b) :: bs => by simp [allP, pD, allP_map bs]
theorem dAll_map (bs : List Bool) : dAll1 (.list (bs.map .bool)) = some (.bool (bs.all id)) := by simp [dAll1, allB_map]
theorem dAny_map (bs : List Bool) : dAny1 (.list (bs.map .bool)) = some (.bool (bs.any id)) := by simp [dAny1, allB_map]
theorem dSortP_map (bs : List (Int × Int)) : dSortP (.list (bs.map pD)) = some ((sortP bs).map pD) := by simp [dSortP, allP_map]
theorem dInB_T {x : PyData} {ys : List PyData} (h : flatD x = true) (h' : ys.all flatD = true) : dInB x (.tuple ys) = some (ys.any fun e => PyData.eqv e x) := by
  simp only [dInB]; rw [if_pos ⟨h, h'⟩]
theorem dInB_L {x : PyData} {ys : List PyData} (h : flatD x = true) (h' : ys.all flatD = true) : dInB x (.list ys) = some (ys.any fun e => PyData.eqv e x) := by
  simp only [dInB]; rw [if_pos ⟨h, h'⟩]
theorem flat_nps (ps : List Nat) : (ps.map np).all flatD = true := by rw [List.all_map]; simp [np, flatD]
theorem any_np (ps : List Nat) (a : Nat) : ((ps.map np).any fun e => PyData.eqv e (np a)) = decide (a ∈ ps) := by
  rw [List.any_map, Bool.eq_iff_iff]
  simp [eqv_np]
theorem dIn_npT (a : Nat) (ps : List Nat) : dIn (np a) (.tuple (ps.map np)) = some (.bool (decide (a ∈ ps))) := by
  unfold dIn
  rw [dInB_T rfl (flat_nps ps), any_np]; rfl
theorem dIn_npL (a : Nat) (ps : List Nat) : dIn (np a) (.list (ps.map np)) = some (.bool (decide (a ∈ ps))) := by
  unfold dIn
  rw [dInB_L rfl (flat_nps ps), any_np]; rfl
theorem flat_strs (ps : List Str) : (ps.map PyData.str).all flatD = true := by rw [List.all_map]; simp [flatD]
theorem dIn_strT (a : Str) (ps : List Str) : dIn (.str a) (.tuple (ps.map .str)) = some (.bool (ps.any fun e => e == a)) := by
  unfold dIn
  rw [dInB_T rfl (flat_strs ps), List.any_map]
  have : ((fun e => PyData.eqv e (.str a)) ∘ PyData.str) = fun e => e == a := by funext e; simp [eqv_str]
  rw [this]; rfl
theorem flat_bools (ps : List Bool) : (ps.map PyData.bool).all flatD = true := by rw [List.all_map]; simp [flatD]
theorem dIn_trueL (ps : List Bool) : dIn (.bool true) (.list (ps.map .bool)) = some (.bool (ps.any id)) := by
  unfold dIn
  rw [dInB_L rfl (flat_bools ps), List.any_map]
  have : ((fun e => PyData.eqv e (.bool true)) ∘ PyData.bool) = id := by funext e; cases e <;> simp [eqv_bool]
  rw [this]; rfl
theorem dNotIn_falseL (ps : List Bool) : dNotIn (.bool false) (.list (ps.map .bool)) = some (.bool (ps.all id)) := by
  unfold dNotIn
  rw [dInB_L rfl (flat_bools ps), List.any_map]
  have : ((fun e => PyData.eqv e (.bool false)) ∘ PyData.bool) = fun e => !e := by funext e; cases e <;> simp [eqv_bool]
  rw [this]
  simp only [Option.map_some]
  congr 2
  induction ps with
  | nil => rfl
  | cons b bs ih => cases b <;> simp_all
theorem canLayAll_of : ∀ {ys : List PyData}, (∀ y ∈ ys, y.canLay0 = true) → PyData.canLayAll0 ys = true
  | [], _ => by simp only [PyData.canLayAll0]
  | y :: ys, h => by
    simp only [PyData.canLayAll0, h y List.mem_cons_self, canLayAll_of fun z hz => h z (List.mem_cons_of_mem _ hz), Bool.and_self]
theorem depthAll_of {k : Nat} : ∀ {ys : List PyData}, (∀ y ∈ ys, y.depth ≤ k) → PyData.depthAll ys ≤ k
  | [], _ => by simp only [PyData.depthAll]; omega
  | y :: ys, h => by
    have a := h y List.mem_cons_self
    have b := depthAll_of fun z hz => h z (List.mem_cons_of_mem _ hz)
    simp only [PyData.depthAll]; omega
/-- a value of small depth whose texts lie -/
def Shp (k : Nat) (d : PyData) : Prop := d.canLay0 = true ∧ d.depth ≤ k
theorem Shp.tup {k : Nat} {ys : List PyData} (h : ∀ y ∈ ys, Shp k y) : Shp (k + 1) (.tuple ys) :=
  ⟨by simp only [PyData.canLay0]; exact canLayAll_of fun y hy => (h y hy).1, by
    have := depthAll_of fun y hy => (h y hy).2
    simp only [PyData.depth]; omega⟩
theorem Shp.lst {k : Nat} {ys : List PyData} (h : ∀ y ∈ ys, Shp k y) : Shp (k + 1) (.list ys) :=
  ⟨by simp only [PyData.canLay0]; exact canLayAll_of fun y hy => (h y hy).1, by
    have := depthAll_of fun y hy => (h y hy).2
    simp only [PyData.depth]; omega⟩
theorem Shp.int {k : Nat} (i : Int) : Shp k (.int i) := ⟨by simp only [PyData.canLay0], by simp only [PyData.depth]; omega⟩
theorem Shp.np {k : Nat} (i : Nat) : Shp k (np i) := Shp.int _
theorem Shp.str {k : Nat} {x : Str} (h : PyData.strOk x = true) : Shp k (.str x) := ⟨by simp only [PyData.canLay0]; exact h, by simp only [PyData.depth]; omega⟩
theorem Shp.bool {k : Nat} (b : Bool) : Shp k (.bool b) := ⟨by simp only [PyData.canLay0], by simp only [PyData.depth]; omega⟩
theorem Shp.none {k : Nat} : Shp k .none := ⟨by simp only [PyData.canLay0], by simp only [PyData.depth]; omega⟩
theorem Shp.ok {k : Nat} {d : PyData} (h : Shp k d) (hk : k ≤ 64) : SeqAt.shaped d = true := by
  unfold SeqAt.shaped
  rw [h.1, decide_eq_true (Nat.le_trans h.2 hk)]; rfl
theorem dEq_shp {x y : PyData} {k k' : Nat} (h : Shp k x) (hk : k ≤ 64) (h' : Shp k' y) (hk' : k' ≤ 64) : dEq x y = some (.bool (PyData.eqv x y)) := by
  unfold dEq dEqB
  rw [h.ok hk, h'.ok hk']
  by_cases c : sc2 x y = true <;> simp [c]
theorem dNe_shp {x y : PyData} {k k' : Nat} (h : Shp k x) (hk : k ≤ 64) (h' : Shp k' y) (hk' : k' ≤ 64) : dNe x y = some (.bool (!PyData.eqv x y)) := by
  unfold dNe dEqB
  rw [h.ok hk, h'.ok hk']
  by_cases c : sc2 x y = true <;> simp [c]
/-- where a point stands -/
def idx : List Nat → Nat → Nat
  | [], _ => 0
  | p :: ps, a => if p = a then 0 else idx ps a + 1
theorem idx_get : ∀ {ps : List Nat} {a : Nat}, a ∈ ps → ps[idx ps a]? = some a
  | p :: ps, a, h => by
    unfold idx
    by_cases e : p = a
    · rw [if_pos e, e]; rfl
    · rw [if_neg e]
      rcases List.mem_cons.mp h with h | h
      · exact absurd h.symm e
      · simpa using idx_get h
theorem idx_of : ∀ {ps : List Nat} {a i : Nat}, ps.Nodup → ps[i]? = some a → idx ps a = i
  | p :: ps, a, 0, _, h => by
    have : p = a := by simpa using h
    unfold idx; rw [if_pos this]
  | p :: ps, a, i + 1, hn, h => by
    have h' : ps[i]? = some a := by simpa using h
    have hm : a ∈ ps := List.mem_of_getElem? h'
    have : p ≠ a := fun z => (List.nodup_cons.mp hn).1 (z ▸ hm)
    unfold idx; rw [if_neg this, idx_of (List.nodup_cons.mp hn).2 h']
theorem idx_lt {ps : List Nat} {a : Nat} (h : a ∈ ps) : idx ps a < ps.length := by
  have := idx_get h
  obtain ⟨q, _⟩ := List.getElem?_eq_some_iff.mp this
  exact q
theorem findIdx_np : ∀ {ps : List Nat} {a : Nat}, a ∈ ps → ((ps.map np).findIdx? fun z => PyData.eqv z (np a)) = some (idx ps a)
  | p :: ps, a, h => by
    rw [List.map_cons, List.findIdx?_cons, eqv_np]
    unfold idx
    by_cases e : p = a
    · simp [e]
    · rcases List.mem_cons.mp h with h | h
      · exact absurd h.symm e
      · simp [e, findIdx_np h]
theorem shp_nps {ps : List Nat} : Shp 1 (.tuple (ps.map np)) := Shp.tup fun y hy => by
  obtain ⟨p, _, rfl⟩ := List.mem_map.mp hy
  exact Shp.np p
theorem dIndex_np {ps : List Nat} {a : Nat} (h : a ∈ ps) : dIndex (.tuple (ps.map np)) [np a] = some (np (idx ps a)) := by
  simp only [dIndex, idxD]
  rw [if_pos ⟨shp_nps.ok (by decide), (Shp.np (k := 0) a).ok (by decide)⟩, findIdx_np h]; rfl
theorem dIn_str2 (a b c : Str) : dIn (.str a) (.tuple [.str b, .str c]) = some (.bool (b == a || c == a)) := by
  have := dIn_strT a [b, c]
  simpa using this
theorem dIn_str3 (a b c d : Str) : dIn (.str a) (.tuple [.str b, .str c, .str d]) = some (.bool (b == a || (c == a || d == a))) := by
  have := dIn_strT a [b, c, d]
  simpa using this
theorem atI_map {α : Type} (f : α → PyData) {xs : List α} {p : Nat} {x : α} (h : xs[p]? = some x) : atI (xs.map f) (p : Int) = some (f x) := atI_nat (by simp [h])
theorem immL_map {α : Type} {f : α → PyData} (h : ∀ x, imm (f x) = true) : ∀ xs : List α, immL (xs.map f) = true
  | [] => rfl
  | x :: xs => by simp [immL, h x, immL_map h xs]
theorem imm_np (p : Nat) : imm (np p) = true := rfl
theorem immL_nps (ps : List Nat) : immL (ps.map np) = true := immL_map imm_np ps
theorem immL_bools (ps : List Bool) : immL (ps.map .bool) = true := immL_map (fun _ => rfl) ps
theorem immL_strs (ps : List Str) : immL (ps.map .str) = true := immL_map (fun _ => rfl) ps
theorem dEq_np (a b : Nat) : dEq (np a) (np b) = some (.bool (decide (a = b))) := by
  rw [dEq_shp (Shp.np (k := 0) a) (by decide) (Shp.np (k := 0) b) (by decide), eqv_np]
theorem dIx_t (ds : List PyData) (i : Int) : dIx (.tuple ds) (.int i) = atI ds i := rfl
theorem dIx_l (ds : List PyData) (i : Int) : dIx (.list ds) (.int i) = atI ds i := rfl
theorem eqv_nilT (ys : List PyData) : PyData.eqv (.tuple ys) (.tuple []) = decide (ys = []) := by
  cases ys <;> simp [PyData.eqv, PyData.eqvAll]
theorem eqv_nilL (ys : List PyData) : PyData.eqv (.list ys) (.list []) = decide (ys = []) := by
  cases ys <;> simp [PyData.eqv, PyData.eqvAll]
theorem dEq_nilT (ps : List Nat) : dEq (.tuple (ps.map np)) (.tuple []) = some (.bool (decide (ps = []))) := by
  rw [dEq_shp shp_nps (by decide) (Shp.tup (k := 0) (ys := []) (fun y hy => by cases hy)) (by decide), eqv_nilT]
  cases ps <;> simp
theorem fComp_of {G : Gh} {src : Fl G} {bd : PyData → En → Option En} {ft : Ft G} {fe : Fe G} {vs : List Nat} {ρ : En} {g : G.T} {α : Type} (e : α → PyData) (t : α → Bool) (f : α → PyData) {xs : List α} (hs : src ρ g = some (xs.map e, g))
    (h : ∀ x ∈ xs, ∃ ρ1, bd (e x) (wipeE vs ρ) = some ρ1 ∧ ft ρ1 g = some (t x, g) ∧ (t x = true → fe ρ1 g = some (f x, g))) : fComp src bd ft fe vs ρ g = some ((xs.filter t).map f, g) := by
  unfold fComp
  rw [hs]
  exact compF_map e t f xs h
theorem rangeD_np (n : Nat) : rangeD 0 n = (List.range n).map np := by
  unfold rangeD np
  apply List.map_congr_left
  intro q _
  simp
theorem range_np {G : Gh} {f : Fe G} {ρ : En} {g g' : G.T} {n : Nat} (e : f ρ g = some (np n, g')) (hn : n ≤ 1000000) : fRange1 f ρ g = some ((List.range n).map np, g') := by
  rw [← rangeD_np]; exact fRange1_of e hn
theorem ii_tt (x : List PyData) : dIsi "tuple" (.tuple x) = some (.bool true) := rfl
theorem ii_tn : dIsi "tuple" .none = some (.bool false) := rfl
theorem ii_tb (x : Bool) : dIsi "tuple" (.bool x) = some (.bool false) := rfl
theorem ii_ti (x : Int) : dIsi "tuple" (.int x) = some (.bool false) := rfl
theorem ii_ts (x : Str) : dIsi "tuple" (.str x) = some (.bool false) := rfl
theorem ii_bn : dIsi "bool" .none = some (.bool false) := rfl
theorem ii_bb (x : Bool) : dIsi "bool" (.bool x) = some (.bool true) := rfl
theorem ii_bi (x : Int) : dIsi "bool" (.int x) = some (.bool false) := rfl
theorem ii_bs (x : Str) : dIsi "bool" (.str x) = some (.bool false) := rfl
theorem ii_in : dIsi "int" .none = some (.bool false) := rfl
theorem ii_ib (x : Bool) : dIsi "int" (.bool x) = some (.bool true) := rfl
theorem ii_ii (x : Int) : dIsi "int" (.int x) = some (.bool true) := rfl
theorem ii_is (x : Str) : dIsi "int" (.str x) = some (.bool false) := rfl
theorem ii_ss (x : Str) : dIsi "str" (.str x) = some (.bool true) := rfl
theorem ii_st (x : List PyData) : dIsi "str" (.tuple x) = some (.bool false) := rfl
theorem isn_n : dIsN true .none .none = some (.bool true) := rfl
theorem isn_b (x : Bool) : dIsN true (.bool x) .none = some (.bool false) := rfl
theorem isn_i (x : Int) : dIsN true (.int x) .none = some (.bool false) := rfl
theorem isn_s (x : Str) : dIsN true (.str x) .none = some (.bool false) := rfl
theorem isn_t (x : List PyData) : dIsN true (.tuple x) .none = some (.bool false) := rfl
theorem dLen_t (x : List PyData) : dLen1 (.tuple x) = some (.int x.length) := rfl
theorem dLen_l (x : List PyData) : dLen1 (.list x) = some (.int x.length) := rfl
end DL

set_option Elab.async false
set_option linter.all false
set_option maxRecDepth 100000
set_option maxHeartbeats 4000000
namespace K75
open PySem PySem.Spec PyProof.Rows L2 DL
def topS (i : Nat) : Stmt := PySem.Challenge.pw_provenordenied_k75_what_is_said.main.body.getD i (.Pass ⟨0, 0, 0, 0⟩)
section
variable {P : Program} {w : World} {K : PySem.W.Frag} {mg : Str → Option Value} {base : Heap}
/-! ### kids_of -/
abbrev s_kids_of : Stmt := topS 1
theorem sc_kids_of : FnScope ["sentence"] ["sentence"] (defScope s_kids_of) := ⟨rfl, rfl, rfl, by decide +kernel, rfl, by decide +kernel, by decide +kernel⟩
def F_kids_of  : Fst G0 :=
  (sRet (fIf (fB (f2 dEq (f2 dIx (fVar 0) (fC (.int 0))) (fC (.str "name")))) (fTup fNil) (fSl (fVar 0) (fPart (some (fC (.int 1)))) (fPart none))))
theorem ok_kids_of {f : Addr} {fd : FuncData} {kk : Nat} (U : Fun K "kids_of" "kids_of" s_kids_of f fd) (hm : mg "kids_of" = some (.ref f)) (hb : Binds K fd ["sentence"] []) (B : NoGl mg [])
    
    (sem : List Ag → Option PyData) (hsem : ∀ as r, sem as = some r → as.length = 1 ∧ outR (F_kids_of  (enter 1 as) ()) = some (r, ())) :
    CallOk P w K mg base (kk + 1 + 1) "kids_of" (GSp K G0 (lift sem)) := by
  refine def_ok (F := F_kids_of ) U sc_kids_of hm hb (lift_sem hsem) fun cdv A outer s H E hr => ?_
  have nd := sc_kids_of.nd
  exact ⟨_, [], (dss_one (ds_ret (de_if (dt_eq hr (de_ix (dv 0) de_int) de_str) (de_tup da_nil) (de_sl (dv 0) (do_some de_int) do_none))))⟩
/-! ### goals_of -/
abbrev s_goals_of : Stmt := topS 3
theorem sc_goals_of : FnScope ["world", "point", "a", "b"] ["world", "point"] (defScope s_goals_of) := ⟨rfl, rfl, rfl, by decide +kernel, rfl, by decide +kernel, by decide +kernel⟩
def F_goals_of  : Fst G0 :=
  (sRetN (fComp (fItems (f2 dIx (fVar 0) (fC (.int 1)))) (bTup 2 (bCons (bName 2) (bCons (bName 3) bNil))) (fB (f2 dEq (fVar 2) (fVar 1))) (fVar 3) [2, 3]))
theorem ok_goals_of {f : Addr} {fd : FuncData} {kk : Nat} (U : Fun K "goals_of" "goals_of" s_goals_of f fd) (hm : mg "goals_of" = some (.ref f)) (hb : Binds K fd ["world", "point"] []) (B : NoGl mg [])
    
    (sem : List Ag → Option (List PyData)) (hsem : ∀ as r, sem as = some r → as.length = 2 ∧ F_goals_of  (enter 4 as) () = some (.rt (.list r) ())) :
    CallOk P w K mg base (kk + 1 + 1) "goals_of" (GSpN K G0 (liftN sem)) := by
  refine def_okN (F := F_goals_of ) U sc_goals_of hm hb (liftN_sem hsem) fun cdv A outer s H E hr => ?_
  have nd := sc_goals_of.nd
  exact ⟨_, [], (dss_one (ds_retNew (dn_lc (own := [("a", 2), ("b", 3)]) (is := [2, 3]) rfl nd (di_seq (de_ix (dv 0) de_int)) (blkOk_by (N := ["world", "point", "a", "b"]) (sc := defScope s_goals_of) (by decide +kernel)) (fun _ _ _ _ _ => (dg_tup 2 (dgs_cons (dg_name 2 nd) (dgs_cons (dg_name 3 nd) dgs_nil)))) (fun _ _ _ _ _ => (dts_one (dt_eq hr (dv 2) (dv 1)))) (fun _ _ _ _ _ => (dv 3)))))⟩
/-! ### world_said -/
abbrev s_world_said : Stmt := topS 6
theorem sc_world_said : FnScope ["world", "sentence", "points", "arrows", "point", "a", "b"] ["world", "sentence"] (defScope s_world_said) := ⟨rfl, rfl, rfl, by decide +kernel, rfl, by decide +kernel, by decide +kernel⟩
def F_world_said (sem_true_said : List Ag → Option PyData) : Fst G0 :=
  (sSeq (sSetH [] 2 (fB1 (d1 dTuple1) (fCons (fN (fComp (fRange1 (f2 dIx (fVar 0) (fC (.int 0)))) (bName 4) (fB (fCallP sem_true_said (fCons (fVar 0) (fCons (fVar 4) (fCons (fVar 1) fNil))))) (fVar 4) [4])) fNil))) (sSeq (sIf (fB (f2 dEq (fVar 2) (fTup fNil))) (sRet (fC .none)) sSkip) (sSeq (sSetH [] 3 (fN (fComp (fItems (f2 dIx (fVar 0) (fC (.int 1)))) (bTup 2 (bCons (bName 5) (bCons (bName 6) bNil))) (fAnd (fB (f2 dIn (fVar 5) (fVar 2))) (fB (f2 dIn (fVar 6) (fVar 2)))) (fTup (fCons (fM dIndex (fVar 2) (fCons (fVar 5) fNil)) (fCons (fM dIndex (fVar 2) (fCons (fVar 6) fNil)) fNil))) [5, 6]))) (sRet (fTup (fCons (fTup (fCons (fB1 dLen (fCons (fVar 2) fNil)) (fCons (fB1 (d1 dTuple1) (fCons (fN (fB1N (l1 dSortP) (fCons (fVar 3) fNil))) fNil)) (fCons (fB1 (d1 dTuple1) (fCons (fN (fComp (fItems (fVar 2)) (bName 4) fYes (f2 dIx (f2 dIx (fVar 0) (fC (.int 2))) (fVar 4)) [4])) fNil)) fNil)))) (fCons (fVar 2) fNil)))))))
theorem ok_world_said {f : Addr} {fd : FuncData} {kk : Nat} (U : Fun K "world_said" "world_said" s_world_said f fd) (hm : mg "world_said" = some (.ref f)) (hb : Binds K fd ["world", "sentence"] []) (B : NoGl mg ["len", "range", "sorted", "tuple"])
    {k_true_said : Nat} {sem_true_said : List Ag → Option PyData} (C_true_said : CallOk P w K mg base k_true_said "true_said" (GSp K G0 (lift sem_true_said))) (h_true_said : k_true_said ≤ kk + 1)
    (sem : List Ag → Option PyData) (hsem : ∀ as r, sem as = some r → as.length = 2 ∧ outR (F_world_said sem_true_said (enter 7 as) ()) = some (r, ())) :
    CallOk P w K mg base (kk + 1 + 1) "world_said" (GSp K G0 (lift sem)) := by
  refine def_ok (F := F_world_said sem_true_said) U sc_world_said hm hb (lift_sem hsem) fun cdv A outer s H E hr => ?_
  have nd := sc_world_said.nd
  exact ⟨_, [], (dss_cons (ds_setH 2 (O := []) nd (de_callTy acTuple call_tupleF rfl (B.at "tuple") boot_tuple (da_cons (DN.de (dn_lc (own := [("point", 4)]) (is := [4]) rfl nd (di_range1 rfl (B.at "range") (de_ix (dv 0) de_int)) (blkOk_by (N := ["world", "sentence", "points", "arrows", "point", "a", "b"]) (sc := defScope s_world_said) (by decide +kernel)) (fun _ _ _ _ _ => (dg_name 4 nd)) (fun _ _ _ _ _ => (dts_one (dt_val (de_callP C_true_said (hr.mono (by omega)) rfl (da_cons (dv 0) (da_cons (dv 4) (da_cons (dv 1) da_nil))))))) (fun _ _ _ _ _ => (dv 4)))) da_nil))) (dss_cons (ds_if (dt_eq hr (dv 2) (de_tup da_nil)) (dss_one (ds_ret de_non)) dss_nil) (dss_cons (ds_setLcH 3 (O := []) (own := [("a", 5), ("b", 6)]) (is := [5, 6]) rfl nd (di_seq (de_ix (dv 0) de_int)) (blkOk_by (N := ["world", "sentence", "points", "arrows", "point", "a", "b"]) (sc := defScope s_world_said) (by decide +kernel)) (fun _ _ _ _ _ => (dg_tup 2 (dgs_cons (dg_name 5 nd) (dgs_cons (dg_name 6 nd) dgs_nil)))) (fun _ _ _ _ _ => (dts_one (DW.dt (dw_and (dt_in (k := kk) hr (dv 5) (dv 2)) (dw_and1 (dt_in (k := kk) hr (dv 6) (dv 2))))))) (fun _ _ _ _ _ => (de_tup (da_cons (de_indexT (k := kk) hr (dv 2) (da_cons (dv 5) da_nil)) (da_cons (de_indexT (k := kk) hr (dv 2) (da_cons (dv 6) da_nil)) da_nil))))) (dss_one (ds_ret (de_tup (da_cons (de_tup (da_cons (de_callB acLen L2.call_len rfl (B.at "len") boot_len (da_cons (dv 2) da_nil)) (da_cons (de_callTy acTuple call_tupleF rfl (B.at "tuple") boot_tuple (da_cons (DN.de (dn_callB acSortP cr_sortPD rfl (B.at "sorted") boot_sorted (da_cons (dv 3) da_nil))) da_nil)) (da_cons (de_callTy acTuple call_tupleF rfl (B.at "tuple") boot_tuple (da_cons (DN.de (dn_lc (own := [("point", 4)]) (is := [4]) rfl nd (di_seq (dv 2)) (blkOk_by (N := ["world", "sentence", "points", "arrows", "point", "a", "b"]) (sc := defScope s_world_said) (by decide +kernel)) (fun _ _ _ _ _ => (dg_name 4 nd)) (fun _ _ _ _ _ => dts_nil) (fun _ _ _ _ _ => (de_ix (de_ix (dv 0) de_int) (dv 4))))) da_nil)) da_nil)))) (da_cons (dv 2) da_nil))))))))⟩
/-! ### true_said -/
abbrev s_true_said : Stmt := topS 5
theorem sc_true_said : FnScope ["world", "point", "sentence", "kind", "one", "other", "told", "left", "points", "goal"] ["world", "point", "sentence"] (defScope s_true_said) := ⟨rfl, rfl, rfl, by decide +kernel, rfl, by decide +kernel, by decide +kernel⟩
def F_true_said (sem_true_said : List Ag → Option PyData) (sem_world_said : List Ag → Option PyData) (sem_goals_of : List Ag → Option (List PyData)) : Fst G0 :=
  (sSeq (sSetH [] 3 (f2 dIx (fVar 2) (fC (.int 0)))) (sSeq (sIf (fB (f2 dEq (fVar 3) (fC (.str "name")))) (sRet (f2 dIn (f2 dIx (fVar 2) (fC (.int 1))) (f2 dIx (f2 dIx (fVar 0) (fC (.int 2))) (fVar 1)))) sSkip) (sSeq (sIf (fB (f2 dEq (fVar 3) (fC (.str "false")))) (sRet (fC (.bool false))) sSkip) (sSeq (sIf (fB (f2 dEq (fVar 3) (fC (.str "said")))) (sSeq (sIf (fNot (fB (fCallP sem_true_said (fCons (fVar 0) (fCons (fVar 1) (fCons (f2 dIx (fVar 2) (fC (.int 1))) fNil)))))) (sRet (fC (.bool true))) sSkip) (sSeq (sAsgH [] (bTup 2 (bCons (bName 7) (bCons (bName 8) bNil))) (fCallP sem_world_said (fCons (fVar 0) (fCons (f2 dIx (fVar 2) (fC (.int 1))) fNil)))) (sRet (fCallP sem_true_said (fCons (fVar 7) (fCons (fM dIndex (fVar 8) (fCons (fVar 1) fNil)) (fCons (f2 dIx (fVar 2) (fC (.int 2))) fNil))))))) sSkip) (sSeq (sIf (fB (f2 dIn (fVar 3) (fTup (fCons (fC (.str "box")) (fCons (fC (.str "may")) fNil))))) (sSeq (sSetH [] 6 (fN (fComp (fItems (fN (fCallPN sem_goals_of (fCons (fVar 0) (fCons (fVar 1) fNil))))) (bName 9) fYes (fCallP sem_true_said (fCons (fVar 0) (fCons (fVar 9) (fCons (f2 dIx (fVar 2) (fC (.int 1))) fNil)))) [9]))) (sRet (fIf (fB (f2 dEq (fVar 3) (fC (.str "box")))) (fB1 (d1 dAll1) (fCons (fVar 6) fNil)) (fB1 (d1 dAny1) (fCons (fVar 6) fNil))))) sSkip) (sSeq (sSetH [] 4 (fCallP sem_true_said (fCons (fVar 0) (fCons (fVar 1) (fCons (f2 dIx (fVar 2) (fC (.int 1))) fNil))))) (sSeq (sIf (fB (f2 dEq (fVar 3) (fC (.str "not")))) (sRet (fNotV (fVar 4))) sSkip) (sSeq (sSetH [] 5 (fCallP sem_true_said (fCons (fVar 0) (fCons (fVar 1) (fCons (f2 dIx (fVar 2) (fC (.int 2))) fNil))))) (sSeq (sIf (fB (f2 dEq (fVar 3) (fC (.str "and")))) (sRet (fAndV (fVar 4) (fVar 5))) sSkip) (sRet (fIf (fB (f2 dEq (fVar 3) (fC (.str "or")))) (fOrV (fVar 4) (fVar 5)) (fOrV (fNotV (fVar 4)) (fVar 5)))))))))))))
theorem ok_true_said {f : Addr} {fd : FuncData} {kk : Nat} (U : Fun K "true_said" "true_said" s_true_said f fd) (hm : mg "true_said" = some (.ref f)) (hb : Binds K fd ["world", "point", "sentence"] []) (B : NoGl mg ["all", "any"])
    {k_true_said : Nat} {sem_true_said : List Ag → Option PyData} (C_true_said : CallOk P w K mg base k_true_said "true_said" (GSp K G0 (lift sem_true_said))) (h_true_said : k_true_said ≤ kk + 1)
    {k_world_said : Nat} {sem_world_said : List Ag → Option PyData} (C_world_said : CallOk P w K mg base k_world_said "world_said" (GSp K G0 (lift sem_world_said))) (h_world_said : k_world_said ≤ kk + 1)
    {k_goals_of : Nat} {sem_goals_of : List Ag → Option (List PyData)} (C_goals_of : CallOk P w K mg base k_goals_of "goals_of" (GSpN K G0 (liftN sem_goals_of))) (h_goals_of : k_goals_of ≤ kk + 1)
    (sem : List Ag → Option PyData) (hsem : ∀ as r, sem as = some r → as.length = 3 ∧ outR (F_true_said sem_true_said sem_world_said sem_goals_of (enter 10 as) ()) = some (r, ())) :
    CallOk P w K mg base (kk + 1 + 1) "true_said" (GSp K G0 (lift sem)) := by
  refine def_ok (F := F_true_said sem_true_said sem_world_said sem_goals_of) U sc_true_said hm hb (lift_sem hsem) fun cdv A outer s H E hr => ?_
  have nd := sc_true_said.nd
  exact ⟨_, [], (dss_cons (ds_setH 3 (O := []) nd (de_ix (dv 2) de_int)) (dss_cons (ds_if (dt_eq hr (dv 3) de_str) (dss_one (ds_ret (de_in (k := kk) hr (de_ix (dv 2) de_int) (de_ix (de_ix (dv 0) de_int) (dv 1))))) dss_nil) (dss_cons (ds_if (dt_eq hr (dv 3) de_str) (dss_one (ds_ret de_bl)) dss_nil) (dss_cons (ds_if (dt_eq hr (dv 3) de_str) (dss_cons (ds_if (dt_not (dt_val (de_callP C_true_said (hr.mono (by omega)) rfl (da_cons (dv 0) (da_cons (dv 1) (da_cons (de_ix (dv 2) de_int) da_nil)))))) (dss_one (ds_ret de_bl)) dss_nil) (dss_cons (ds_asgH (O := []) [7, 8] (de_callP C_world_said (hr.mono (by omega)) rfl (da_cons (dv 0) (da_cons (de_ix (dv 2) de_int) da_nil))) (dg_tup 2 (dgs_cons (dg_name 7 nd) (dgs_cons (dg_name 8 nd) dgs_nil)))) (dss_one (ds_ret (de_callP C_true_said (hr.mono (by omega)) rfl (da_cons (dv 7) (da_cons (de_indexT (k := kk) hr (dv 8) (da_cons (dv 1) da_nil)) (da_cons (de_ix (dv 2) de_int) da_nil)))))))) dss_nil) (dss_cons (ds_if (dt_in (k := kk) hr (dv 3) (de_tup (da_cons de_str (da_cons de_str da_nil)))) (dss_cons (ds_setLcH 6 (O := []) (own := [("goal", 9)]) (is := [9]) rfl nd (di_seq (DN.de (dn_callP C_goals_of (hr.mono (by omega)) rfl (da_cons (dv 0) (da_cons (dv 1) da_nil))))) (blkOk_by (N := ["world", "point", "sentence", "kind", "one", "other", "told", "left", "points", "goal"]) (sc := defScope s_true_said) (by decide +kernel)) (fun _ _ _ _ _ => (dg_name 9 nd)) (fun _ _ _ _ _ => dts_nil) (fun _ _ _ _ _ => (de_callP C_true_said (hr.mono (by omega)) rfl (da_cons (dv 0) (da_cons (dv 9) (da_cons (de_ix (dv 2) de_int) da_nil)))))) (dss_one (ds_ret (de_if (dt_eq hr (dv 3) de_str) (de_callB acAll (L2.cr_all rfl) rfl (B.at "all") boot_all (da_cons (dv 6) da_nil)) (de_callB acAny (L2.cr_any rfl) rfl (B.at "any") boot_any (da_cons (dv 6) da_nil)))))) dss_nil) (dss_cons (ds_setH 4 (O := []) nd (de_callP C_true_said (hr.mono (by omega)) rfl (da_cons (dv 0) (da_cons (dv 1) (da_cons (de_ix (dv 2) de_int) da_nil))))) (dss_cons (ds_if (dt_eq hr (dv 3) de_str) (dss_one (ds_ret (de_not (dv 4)))) dss_nil) (dss_cons (ds_setH 5 (O := []) nd (de_callP C_true_said (hr.mono (by omega)) rfl (da_cons (dv 0) (da_cons (dv 1) (da_cons (de_ix (dv 2) de_int) da_nil))))) (dss_cons (ds_if (dt_eq hr (dv 3) de_str) (dss_one (ds_ret (de_and (dv 4) (de_one (dv 5))))) dss_nil) (dss_one (ds_ret (de_if (dt_eq hr (dv 3) de_str) (de_or (dv 4) (de_one (dv 5))) (de_or (de_not (dv 4)) (de_one (dv 5)))))))))))))))⟩
/-! ### behind -/
abbrev s_behind : Stmt := topS 7
theorem sc_behind : FnScope ["first", "sentence", "kind", "kids", "kid"] ["first", "sentence"] (defScope s_behind) := ⟨rfl, rfl, rfl, by decide +kernel, rfl, by decide +kernel, by decide +kernel⟩
def F_behind (sem_kids_of : List Ag → Option PyData) (sem_behind : List Ag → Option PyData) : Fst G0 :=
  (sSeq (sSetH [] 2 (f2 dIx (fVar 1) (fC (.int 0)))) (sSeq (sIf (fB (f2 dIn (fVar 2) (fTup (fCons (fC (.str "name")) (fCons (fC (.str "false")) fNil))))) (sRet (fTup (fCons (fC (.str "then")) (fCons (fVar 0) (fCons (fVar 1) fNil))))) sSkip) (sSeq (sSetH [] 3 (fN (fComp (fItems (fCallP sem_kids_of (fCons (fVar 1) fNil))) (bName 4) fYes (fCallP sem_behind (fCons (fVar 0) (fCons (fVar 4) fNil))) [4]))) (sSeq (sIf (fB (f2 dIn (fVar 2) (fTup (fCons (fC (.str "and")) (fCons (fC (.str "or")) (fCons (fC (.str "then")) fNil)))))) (sRet (fTup (fCons (fVar 2) (fCons (f2 dIx (fVar 3) (fC (.int 0))) (fCons (f2 dIx (fVar 3) (fC (.int 1))) fNil))))) sSkip) (sSeq (sIf (fB (f2 dEq (fVar 2) (fC (.str "may")))) (sRet (fTup (fCons (fC (.str "then")) (fCons (fVar 0) (fCons (fTup (fCons (fC (.str "may")) (fCons (fTup (fCons (fC (.str "and")) (fCons (fVar 0) (fCons (f2 dIx (fVar 3) (fC (.int 0))) fNil)))) fNil))) fNil))))) sSkip) (sRet (fTup (fCons (fC (.str "then")) (fCons (fVar 0) (fCons (fTup (fCons (fVar 2) (fCons (f2 dIx (fVar 3) (fC (.int 0))) fNil))) fNil))))))))))
theorem ok_behind {f : Addr} {fd : FuncData} {kk : Nat} (U : Fun K "behind" "behind" s_behind f fd) (hm : mg "behind" = some (.ref f)) (hb : Binds K fd ["first", "sentence"] []) (B : NoGl mg [])
    {k_kids_of : Nat} {sem_kids_of : List Ag → Option PyData} (C_kids_of : CallOk P w K mg base k_kids_of "kids_of" (GSp K G0 (lift sem_kids_of))) (h_kids_of : k_kids_of ≤ kk + 1)
    {k_behind : Nat} {sem_behind : List Ag → Option PyData} (C_behind : CallOk P w K mg base k_behind "behind" (GSp K G0 (lift sem_behind))) (h_behind : k_behind ≤ kk + 1)
    (sem : List Ag → Option PyData) (hsem : ∀ as r, sem as = some r → as.length = 2 ∧ outR (F_behind sem_kids_of sem_behind (enter 5 as) ()) = some (r, ())) :
    CallOk P w K mg base (kk + 1 + 1) "behind" (GSp K G0 (lift sem)) := by
  refine def_ok (F := F_behind sem_kids_of sem_behind) U sc_behind hm hb (lift_sem hsem) fun cdv A outer s H E hr => ?_
  have nd := sc_behind.nd
  exact ⟨_, [], (dss_cons (ds_setH 2 (O := []) nd (de_ix (dv 1) de_int)) (dss_cons (ds_if (dt_in (k := kk) hr (dv 2) (de_tup (da_cons de_str (da_cons de_str da_nil)))) (dss_one (ds_ret (de_tup (da_cons de_str (da_cons (dv 0) (da_cons (dv 1) da_nil)))))) dss_nil) (dss_cons (ds_setLcH 3 (O := []) (own := [("kid", 4)]) (is := [4]) rfl nd (di_seq (de_callP C_kids_of (hr.mono (by omega)) rfl (da_cons (dv 1) da_nil))) (blkOk_by (N := ["first", "sentence", "kind", "kids", "kid"]) (sc := defScope s_behind) (by decide +kernel)) (fun _ _ _ _ _ => (dg_name 4 nd)) (fun _ _ _ _ _ => dts_nil) (fun _ _ _ _ _ => (de_callP C_behind (hr.mono (by omega)) rfl (da_cons (dv 0) (da_cons (dv 4) da_nil))))) (dss_cons (ds_if (dt_in (k := kk) hr (dv 2) (de_tup (da_cons de_str (da_cons de_str (da_cons de_str da_nil))))) (dss_one (ds_ret (de_tup (da_cons (dv 2) (da_cons (de_ix (dv 3) de_int) (da_cons (de_ix (dv 3) de_int) da_nil)))))) dss_nil) (dss_cons (ds_if (dt_eq hr (dv 2) de_str) (dss_one (ds_ret (de_tup (da_cons de_str (da_cons (dv 0) (da_cons (de_tup (da_cons de_str (da_cons (de_tup (da_cons de_str (da_cons (dv 0) (da_cons (de_ix (dv 3) de_int) da_nil)))) da_nil))) da_nil)))))) dss_nil) (dss_one (ds_ret (de_tup (da_cons de_str (da_cons (dv 0) (da_cons (de_tup (da_cons (dv 2) (da_cons (de_ix (dv 3) de_int) da_nil))) da_nil)))))))))))⟩
/-! ### without_said -/
abbrev s_without_said : Stmt := topS 8
theorem sc_without_said : FnScope ["sentence", "kids", "kid"] ["sentence"] (defScope s_without_said) := ⟨rfl, rfl, rfl, by decide +kernel, rfl, by decide +kernel, by decide +kernel⟩
def F_without_said (sem_kids_of : List Ag → Option PyData) (sem_without_said : List Ag → Option PyData) (sem_behind : List Ag → Option PyData) : Fst G0 :=
  (sSeq (sSetH [] 1 (fN (fComp (fItems (fCallP sem_kids_of (fCons (fVar 0) fNil))) (bName 2) fYes (fCallP sem_without_said (fCons (fVar 2) fNil)) [2]))) (sSeq (sIf (fB (f2 dEq (f2 dIx (fVar 0) (fC (.int 0))) (fC (.str "said")))) (sRet (fCallP sem_behind (fCons (f2 dIx (fVar 1) (fC (.int 0))) (fCons (f2 dIx (fVar 1) (fC (.int 1))) fNil)))) sSkip) (sRet (fIf (fB (f2 dEq (f2 dIx (fVar 0) (fC (.int 0))) (fC (.str "name")))) (fVar 0) (f2 dAdd (fTup (fCons (f2 dIx (fVar 0) (fC (.int 0))) fNil)) (fB1 (d1 dTuple1) (fCons (fVar 1) fNil)))))))
theorem ok_without_said {f : Addr} {fd : FuncData} {kk : Nat} (U : Fun K "without_said" "without_said" s_without_said f fd) (hm : mg "without_said" = some (.ref f)) (hb : Binds K fd ["sentence"] []) (B : NoGl mg ["tuple"])
    {k_kids_of : Nat} {sem_kids_of : List Ag → Option PyData} (C_kids_of : CallOk P w K mg base k_kids_of "kids_of" (GSp K G0 (lift sem_kids_of))) (h_kids_of : k_kids_of ≤ kk + 1)
    {k_without_said : Nat} {sem_without_said : List Ag → Option PyData} (C_without_said : CallOk P w K mg base k_without_said "without_said" (GSp K G0 (lift sem_without_said))) (h_without_said : k_without_said ≤ kk + 1)
    {k_behind : Nat} {sem_behind : List Ag → Option PyData} (C_behind : CallOk P w K mg base k_behind "behind" (GSp K G0 (lift sem_behind))) (h_behind : k_behind ≤ kk + 1)
    (sem : List Ag → Option PyData) (hsem : ∀ as r, sem as = some r → as.length = 1 ∧ outR (F_without_said sem_kids_of sem_without_said sem_behind (enter 3 as) ()) = some (r, ())) :
    CallOk P w K mg base (kk + 1 + 1) "without_said" (GSp K G0 (lift sem)) := by
  refine def_ok (F := F_without_said sem_kids_of sem_without_said sem_behind) U sc_without_said hm hb (lift_sem hsem) fun cdv A outer s H E hr => ?_
  have nd := sc_without_said.nd
  exact ⟨_, [], (dss_cons (ds_setLcH 1 (O := []) (own := [("kid", 2)]) (is := [2]) rfl nd (di_seq (de_callP C_kids_of (hr.mono (by omega)) rfl (da_cons (dv 0) da_nil))) (blkOk_by (N := ["sentence", "kids", "kid"]) (sc := defScope s_without_said) (by decide +kernel)) (fun _ _ _ _ _ => (dg_name 2 nd)) (fun _ _ _ _ _ => dts_nil) (fun _ _ _ _ _ => (de_callP C_without_said (hr.mono (by omega)) rfl (da_cons (dv 2) da_nil)))) (dss_cons (ds_if (dt_eq hr (de_ix (dv 0) de_int) de_str) (dss_one (ds_ret (de_callP C_behind (hr.mono (by omega)) rfl (da_cons (de_ix (dv 1) de_int) (da_cons (de_ix (dv 1) de_int) da_nil))))) dss_nil) (dss_one (ds_ret (de_if (dt_eq hr (de_ix (dv 0) de_int) de_str) (dv 0) (de_add (de_tup (da_cons (de_ix (dv 0) de_int) da_nil)) (de_callTy acTuple call_tupleF rfl (B.at "tuple") boot_tuple (da_cons (dv 1) da_nil))))))))⟩
/-! ### _law_draws -/
abbrev s_law_draws : Stmt := topS 10
theorem sc_law_draws : FnScope ["script", "many", "draws", "mixed", "k", "cell", "rest", "turn"] ["script", "many"] (defScope s_law_draws) := ⟨rfl, rfl, rfl, by decide +kernel, rfl, by decide +kernel, by decide +kernel⟩
def F_law_draws  : Fst G0 :=
  (sSeq (sSetN 2 (fLst fNil)) (sSeq (sSetH [2] 3 (fC (.int 7))) (sSeq (sForH [2] (fRange1 (fB1 dLen (fCons (fVar 0) fNil))) (bName 4) (sSeq (sSetH [2] 5 (fB1 (d1 dAbs1) (fCons (fB1 (d1 dInt1) (fCons (f2 dIx (fVar 0) (fVar 4)) fNil)) fNil))) (sSeq (sSetH [2] 3 (f2 dMod (fB1 (d1 dInt1) (fCons (f2 dAdd (f2 dAdd (f2 dMul (fVar 3) (fC (.int 48271))) (f2 dMod (fVar 5) (fC (.int 1000003)))) (fVar 4)) fNil)) (fC (.int 65537)))) (sSeq (sSetH [2] 6 (fC (.int 0))) (sSeq (sIf (fB (f2 dGe (fVar 5) (f2 dPow (fC (.int 10)) (fC (.int 18))))) (sSetH [2] 6 (fVar 5)) (sSeq (sApp 2 (f2 dMod (fB1 (d1 dInt1) (fCons (fVar 5) fNil)) (fC (.int 997)))) (sApp 2 (f2 dMod (f2 dMod (fB1 (d1 dInt1) (fCons (f2 dAdd (f2 dMul (fVar 3) (fC (.int 69621))) (fC (.int 5))) fNil)) (fC (.int 65521))) (fC (.int 997)))))) (sForH [2] (fRange1 (fC (.int 60))) (bName 7) (sIf (fB (f2 dGt (fVar 6) (fC (.int 0)))) (sSeq (sApp 2 (f2 dMod (fB1 (d1 dInt1) (fCons (fVar 6) fNil)) (fC (.int 997)))) (sSetH [2] 6 (f2 dDiv (fVar 6) (fC (.int 997))))) sSkip))))))) (sSeq (sForH [2] (fRange1 (fVar 1)) (bName 4) (sSeq (sSetH [2] 3 (f2 dMod (fB1 (d1 dInt1) (fCons (f2 dAdd (f2 dAdd (f2 dMul (fVar 3) (fC (.int 16807))) (fVar 4)) (fC (.int 1))) fNil)) (fC (.int 65537)))) (sApp 2 (f2 dMod (fB1 (d1 dInt1) (fCons (fVar 3) fNil)) (fC (.int 997)))))) (sRetN (fSlL (fVar 2) (fPart none) (fPart (some (fVar 1)))))))))
theorem ok_law_draws {f : Addr} {fd : FuncData} {kk : Nat} (U : Fun K "_law_draws" "_law_draws" s_law_draws f fd) (hm : mg "_law_draws" = some (.ref f)) (hb : Binds K fd ["script", "many"] []) (B : NoGl mg ["abs", "int", "len", "range"])
    
    (sem : List Ag → Option (List PyData)) (hsem : ∀ as r, sem as = some r → as.length = 2 ∧ F_law_draws  (enter 8 as) () = some (.rt (.list r) ())) :
    CallOk P w K mg base (kk + 1 + 1) "_law_draws" (GSpN K G0 (liftN sem)) := by
  refine def_okN (F := F_law_draws ) U sc_law_draws hm hb (liftN_sem hsem) fun cdv A outer s H E hr => ?_
  have nd := sc_law_draws.nd
  exact ⟨_, [], (dss_cons (ds_setN 2 (O := []) (O' := [2]) nd (dn_lst da_nil)) (dss_cons (ds_setH 3 (O := [2]) nd de_int) (dss_cons (ds_forH [4] PassesOwn.never rfl (di_range1 rfl (B.at "range") (de_callB acLen L2.call_len rfl (B.at "len") boot_len (da_cons (dv 0) da_nil))) (dg_name 4 nd) (dss_cons (ds_setH 5 (O := [2]) nd (de_callB acAbs L2.call_abs rfl (B.at "abs") boot_abs (da_cons (de_callTy acInt L2.call_int1 rfl (B.at "int") boot_int (da_cons (de_ix (dv 0) (dv 4)) da_nil)) da_nil))) (dss_cons (ds_setH 3 (O := [2]) nd (de_mod (de_callTy acInt L2.call_int1 rfl (B.at "int") boot_int (da_cons (de_add (de_add (de_mul (dv 3) de_int) (de_mod (dv 5) de_int)) (dv 4)) da_nil)) de_int)) (dss_cons (ds_setH 6 (O := [2]) nd de_int) (dss_cons (ds_if (dt_ge (dv 5) (de_pow de_int de_int)) (dss_one (ds_setH 6 (O := [2]) nd (dv 5))) (dss_cons (ds_app 2 (de_mod (de_callTy acInt L2.call_int1 rfl (B.at "int") boot_int (da_cons (dv 5) da_nil)) de_int)) (dss_one (ds_app 2 (de_mod (de_mod (de_callTy acInt L2.call_int1 rfl (B.at "int") boot_int (da_cons (de_add (de_mul (dv 3) de_int) de_int) da_nil)) de_int) de_int))))) (dss_one (ds_forH [7] PassesOwn.never rfl (di_range1 rfl (B.at "range") de_int) (dg_name 7 nd) (dss_one (ds_if (dt_gt (dv 6) de_int) (dss_cons (ds_app 2 (de_mod (de_callTy acInt L2.call_int1 rfl (B.at "int") boot_int (da_cons (dv 6) da_nil)) de_int)) (dss_one (ds_setH 6 (O := [2]) nd (de_div (dv 6) de_int)))) dss_nil)) rfl (fun a b c => ps_for PassesOwn.never rfl a b c))))))) rfl (fun a b c => ps_for PassesOwn.never rfl a b c)) (dss_cons (ds_forH [4] PassesOwn.never rfl (di_range1 rfl (B.at "range") (dv 1)) (dg_name 4 nd) (dss_cons (ds_setH 3 (O := [2]) nd (de_mod (de_callTy acInt L2.call_int1 rfl (B.at "int") boot_int (da_cons (de_add (de_add (de_mul (dv 3) de_int) (dv 4)) de_int) da_nil)) de_int)) (dss_one (ds_app 2 (de_mod (de_callTy acInt L2.call_int1 rfl (B.at "int") boot_int (da_cons (dv 3) da_nil)) de_int)))) rfl (fun a b c => ps_for PassesOwn.never rfl a b c)) (dss_one (ds_retNew (dn_sl (dv 2) do_none (do_some (dv 1)))))))))⟩
/-! ### _law_pick -/
abbrev s_law_pick : Stmt := topS 12
theorem sc_law_pick : FnScope ["w", "rows"] ["w", "rows"] (defScope s_law_pick) := ⟨rfl, rfl, rfl, by decide +kernel, rfl, by decide +kernel, by decide +kernel⟩
def F_law_pick {G : Gh} (sem_law_next : Fs G) : Fst G :=
  (sRet (f2 dIx (fVar 1) (fCall sem_law_next (fConsR 0 (fCons (fB1 dLen (fCons (fVar 1) fNil)) fNil)))))
theorem ok_law_pick {G : Gh} {f : Addr} {fd : FuncData} {kk : Nat} (U : Fun K "_law_pick" "_law_pick" s_law_pick f fd) (hm : mg "_law_pick" = some (.ref f)) (hb : Binds K fd ["w", "rows"] []) (B : NoGl mg ["len"])
    {k_law_next : Nat} {sem_law_next : Fs G} (C_law_next : CallOk P w K mg base k_law_next "_law_next" (GSp K G sem_law_next)) (h_law_next : k_law_next ≤ kk + 1)
    (sem : Fs G) (hsem : ∀ as g r, sem as g = some r → as.length = 2 ∧ outR (F_law_pick sem_law_next (enter 2 as) g) = some r) :
    CallOk P w K mg base (kk + 1 + 1) "_law_pick" (GSp K G sem) := by
  refine def_ok (F := F_law_pick sem_law_next) U sc_law_pick hm hb hsem fun cdv A outer s H E hr => ?_
  have nd := sc_law_pick.nd
  exact ⟨_, [], (dss_one (ds_ret (de_ix (dv 1) (de_call C_law_next (hr.mono (by omega)) rfl (da_consR 0 (da_cons (de_callB acLen L2.call_len rfl (B.at "len") boot_len (da_cons (dv 1) da_nil)) da_nil))))))⟩
/-! ### _law_alike -/
abbrev s_law_alike : Stmt := topS 13
theorem sc_law_alike : FnScope ["told", "due", "k"] ["told", "due"] (defScope s_law_alike) := ⟨rfl, rfl, rfl, by decide +kernel, rfl, by decide +kernel, by decide +kernel⟩
def F_law_alike (sem_law_alike : List Ag → Option PyData) : Fst G0 :=
  (sSeq (sIf (fB (f1 (dIsi "tuple") (fVar 1))) (sSeq (sIf (fOr (fNot (fB (f1 (dIsi "tuple") (fVar 0)))) (fB (f2 dNe (fB1 dLen (fCons (fVar 0) fNil)) (fB1 dLen (fCons (fVar 1) fNil))))) (sRet (fC (.bool false))) sSkip) (sRet (f2 dEq (fN (fComp (fRange1 (fB1 dLen (fCons (fVar 1) fNil))) (bName 2) (fNot (fB (fCallP sem_law_alike (fCons (f2 dIx (fVar 0) (fVar 2)) (fCons (f2 dIx (fVar 1) (fVar 2)) fNil))))) (fVar 2) [2])) (fN (fLst fNil))))) sSkip) (sSeq (sIf (fB (f2 (dIsN true) (fVar 1) (fC .none))) (sRet (f2 (dIsN true) (fVar 0) (fC .none))) sSkip) (sSeq (sIf (fB (f1 (dIsi "bool") (fVar 1))) (sRet (fAndV (f1 (dIsi "bool") (fVar 0)) (f2 dEq (fVar 0) (fVar 1)))) sSkip) (sSeq (sIf (fB (f1 (dIsi "int") (fVar 1))) (sRet (fAndV (f1 (dIsi "int") (fVar 0)) (fAndV (fNotV (f1 (dIsi "bool") (fVar 0))) (f2 dEq (fVar 0) (fVar 1))))) sSkip) (sRet (fAndV (f1 (dIsi "str") (fVar 0)) (f2 dEq (fVar 0) (fVar 1))))))))
theorem ok_law_alike {f : Addr} {fd : FuncData} {kk : Nat} (U : Fun K "_law_alike" "_law_alike" s_law_alike f fd) (hm : mg "_law_alike" = some (.ref f)) (hb : Binds K fd ["told", "due"] []) (B : NoGl mg ["bool", "int", "isinstance", "len", "range", "str", "tuple"])
    {k_law_alike : Nat} {sem_law_alike : List Ag → Option PyData} (C_law_alike : CallOk P w K mg base k_law_alike "_law_alike" (GSp K G0 (lift sem_law_alike))) (h_law_alike : k_law_alike ≤ kk + 1)
    (sem : List Ag → Option PyData) (hsem : ∀ as r, sem as = some r → as.length = 2 ∧ outR (F_law_alike sem_law_alike (enter 3 as) ()) = some (r, ())) :
    CallOk P w K mg base (kk + 1 + 1) "_law_alike" (GSp K G0 (lift sem)) := by
  refine def_ok (F := F_law_alike sem_law_alike) U sc_law_alike hm hb (lift_sem hsem) fun cdv A outer s H E hr => ?_
  have nd := sc_law_alike.nd
  exact ⟨_, [], (dss_cons (ds_if (dt_val (de_isi (T := "tuple") (by decide) (dv 1) rfl (B.at "isinstance") rfl (B.at "tuple") PyProof.Rows.boot_tuple)) (dss_cons (ds_if (DW.dt (dw_or (dt_not (dt_val (de_isi (T := "tuple") (by decide) (dv 0) rfl (B.at "isinstance") rfl (B.at "tuple") PyProof.Rows.boot_tuple))) (dw_or1 (dt_ne hr (de_callB acLen L2.call_len rfl (B.at "len") boot_len (da_cons (dv 0) da_nil)) (de_callB acLen L2.call_len rfl (B.at "len") boot_len (da_cons (dv 1) da_nil)))))) (dss_one (ds_ret de_bl)) dss_nil) (dss_one (ds_ret (de_eq hr (DN.de (dn_lc (own := [("k", 2)]) (is := [2]) rfl nd (di_range1 rfl (B.at "range") (de_callB acLen L2.call_len rfl (B.at "len") boot_len (da_cons (dv 1) da_nil))) (blkOk_by (N := ["told", "due", "k"]) (sc := defScope s_law_alike) (by decide +kernel)) (fun _ _ _ _ _ => (dg_name 2 nd)) (fun _ _ _ _ _ => (dts_one (dt_not (dt_val (de_callP C_law_alike (hr.mono (by omega)) rfl (da_cons (de_ix (dv 0) (dv 2)) (da_cons (de_ix (dv 1) (dv 2)) da_nil))))))) (fun _ _ _ _ _ => (dv 2)))) (DN.de (dn_lst da_nil)))))) dss_nil) (dss_cons (ds_if (dt_isN (dv 1) de_non) (dss_one (ds_ret (de_isN (dv 0) de_non))) dss_nil) (dss_cons (ds_if (dt_val (de_isi (T := "bool") (by decide) (dv 1) rfl (B.at "isinstance") rfl (B.at "bool") PyProof.Rows.boot_bool)) (dss_one (ds_ret (de_and (de_isi (T := "bool") (by decide) (dv 0) rfl (B.at "isinstance") rfl (B.at "bool") PyProof.Rows.boot_bool) (de_one (de_eq hr (dv 0) (dv 1)))))) dss_nil) (dss_cons (ds_if (dt_val (de_isi (T := "int") (by decide) (dv 1) rfl (B.at "isinstance") rfl (B.at "int") PyProof.Rows.boot_int)) (dss_one (ds_ret (de_and (de_isi (T := "int") (by decide) (dv 0) rfl (B.at "isinstance") rfl (B.at "int") PyProof.Rows.boot_int) (de_and (de_not (de_isi (T := "bool") (by decide) (dv 0) rfl (B.at "isinstance") rfl (B.at "bool") PyProof.Rows.boot_bool)) (de_one (de_eq hr (dv 0) (dv 1))))))) dss_nil) (dss_one (ds_ret (de_and (de_isi (T := "str") (by decide) (dv 0) rfl (B.at "isinstance") rfl (B.at "str") PyProof.Rows.boot_str) (de_one (de_eq hr (dv 0) (dv 1))))))))))⟩
/-! ### _law_set -/
abbrev s_law_set : Stmt := topS 14
theorem sc_law_set : FnScope ["things", "found", "thing"] ["things"] (defScope s_law_set) := ⟨rfl, rfl, rfl, by decide +kernel, rfl, by decide +kernel, by decide +kernel⟩
def F_law_set  : Fst G0 :=
  (sSeq (sSetN 1 (fLst fNil)) (sSeq (sForH [1] (fItems (fN (fB1N (l1 dSortP) (fCons (fVar 0) fNil)))) (bName 2) (sIf (fOr (fB (f2 dEq (fVar 1) (fN (fLst fNil)))) (fB (f2 dNe (f2 dIx (fVar 1) (f2 dSub (fB1 dLen (fCons (fVar 1) fNil)) (fC (.int 1)))) (fVar 2)))) (sApp 1 (fVar 2)) sSkip)) (sRet (fB1 (d1 dTuple1) (fCons (fVar 1) fNil)))))
theorem ok_law_set {f : Addr} {fd : FuncData} {kk : Nat} (U : Fun K "_law_set" "_law_set" s_law_set f fd) (hm : mg "_law_set" = some (.ref f)) (hb : Binds K fd ["things"] []) (B : NoGl mg ["len", "sorted", "tuple"])
    
    (sem : List Ag → Option PyData) (hsem : ∀ as r, sem as = some r → as.length = 1 ∧ outR (F_law_set  (enter 3 as) ()) = some (r, ())) :
    CallOk P w K mg base (kk + 1 + 1) "_law_set" (GSp K G0 (lift sem)) := by
  refine def_ok (F := F_law_set ) U sc_law_set hm hb (lift_sem hsem) fun cdv A outer s H E hr => ?_
  have nd := sc_law_set.nd
  exact ⟨_, [], (dss_cons (ds_setN 1 (O := []) (O' := [1]) nd (dn_lst da_nil)) (dss_cons (ds_forH [2] PassesOwn.never rfl (di_seq (DN.de (dn_callB acSortP cr_sortPD rfl (B.at "sorted") boot_sorted (da_cons (dv 0) da_nil)))) (dg_name 2 nd) (dss_one (ds_if (DW.dt (dw_or (dt_eq hr (dv 1) (DN.de (dn_lst da_nil))) (dw_or1 (dt_ne hr (de_ix (dv 1) (de_sub (de_callB acLen L2.call_len rfl (B.at "len") boot_len (da_cons (dv 1) da_nil)) de_int)) (dv 2))))) (dss_one (ds_app 1 (dv 2))) dss_nil)) rfl (fun a b c => ps_for PassesOwn.never rfl a b c)) (dss_one (ds_ret (de_callTy acTuple call_tupleF rfl (B.at "tuple") boot_tuple (da_cons (dv 1) da_nil))))))⟩
/-! ### _law_sentence -/
abbrev s_law_sentence : Stmt := topS 15
theorem sc_law_sentence : FnScope ["w", "depth", "kind", "one"] ["w", "depth"] (defScope s_law_sentence) := ⟨rfl, rfl, rfl, by decide +kernel, rfl, by decide +kernel, by decide +kernel⟩
def F_law_sentence {G : Gh} (sem_law_next : Fs G) (sem_law_pick : Fs G) (sem_law_sentence : Fs G) : Fst G :=
  (sSeq (sSetH [] 2 (fIf (fB (f2 dGt (fVar 1) (fC (.int 0)))) (fCall sem_law_next (fConsR 0 (fCons (fC (.int 13)) fNil))) (fCall sem_law_next (fConsR 0 (fCons (fC (.int 3)) fNil))))) (sSeq (sIf (fB (f2 dLt (fVar 2) (fC (.int 3)))) (sRet (fIf (fB (f2 dGt (fCall sem_law_next (fConsR 0 (fCons (fC (.int 7)) fNil))) (fC (.int 0)))) (fTup (fCons (fC (.str "name")) (fCons (fCall sem_law_pick (fConsR 0 (fCons (fN (fLst (fCons (fC (.str "a")) (fCons (fC (.str "b")) fNil)))) fNil))) fNil))) (fTup (fCons (fC (.str "false")) fNil)))) sSkip) (sSeq (sIf (fB (f2 dLt (fVar 2) (fC (.int 7)))) (sRet (fTup (fCons (fCall sem_law_pick (fConsR 0 (fCons (fN (fLst (fCons (fC (.str "not")) (fCons (fC (.str "box")) (fCons (fC (.str "may")) (fCons (fC (.str "box")) fNil)))))) fNil))) (fCons (fCall sem_law_sentence (fConsR 0 (fCons (f2 dSub (fVar 1) (fC (.int 1))) fNil))) fNil)))) sSkip) (sSeq (sSetH [] 3 (fCall sem_law_sentence (fConsR 0 (fCons (f2 dSub (fVar 1) (fC (.int 1))) fNil)))) (sRet (fTup (fCons (fCall sem_law_pick (fConsR 0 (fCons (fN (fLst (fCons (fC (.str "and")) (fCons (fC (.str "or")) (fCons (fC (.str "then")) (fCons (fC (.str "said")) (fCons (fC (.str "said")) (fCons (fC (.str "said")) fNil)))))))) fNil))) (fCons (fVar 3) (fCons (fCall sem_law_sentence (fConsR 0 (fCons (f2 dSub (fVar 1) (fC (.int 1))) fNil))) fNil)))))))))
theorem ok_law_sentence {G : Gh} {f : Addr} {fd : FuncData} {kk : Nat} (U : Fun K "_law_sentence" "_law_sentence" s_law_sentence f fd) (hm : mg "_law_sentence" = some (.ref f)) (hb : Binds K fd ["w", "depth"] []) (B : NoGl mg [])
    {k_law_next : Nat} {sem_law_next : Fs G} (C_law_next : CallOk P w K mg base k_law_next "_law_next" (GSp K G sem_law_next)) (h_law_next : k_law_next ≤ kk + 1)
    {k_law_pick : Nat} {sem_law_pick : Fs G} (C_law_pick : CallOk P w K mg base k_law_pick "_law_pick" (GSp K G sem_law_pick)) (h_law_pick : k_law_pick ≤ kk + 1)
    {k_law_sentence : Nat} {sem_law_sentence : Fs G} (C_law_sentence : CallOk P w K mg base k_law_sentence "_law_sentence" (GSp K G sem_law_sentence)) (h_law_sentence : k_law_sentence ≤ kk + 1)
    (sem : Fs G) (hsem : ∀ as g r, sem as g = some r → as.length = 2 ∧ outR (F_law_sentence sem_law_next sem_law_pick sem_law_sentence (enter 4 as) g) = some r) :
    CallOk P w K mg base (kk + 1 + 1) "_law_sentence" (GSp K G sem) := by
  refine def_ok (F := F_law_sentence sem_law_next sem_law_pick sem_law_sentence) U sc_law_sentence hm hb hsem fun cdv A outer s H E hr => ?_
  have nd := sc_law_sentence.nd
  exact ⟨_, [], (dss_cons (ds_setH 2 (O := []) nd (de_if (dt_gt (dv 1) de_int) (de_call C_law_next (hr.mono (by omega)) rfl (da_consR 0 (da_cons de_int da_nil))) (de_call C_law_next (hr.mono (by omega)) rfl (da_consR 0 (da_cons de_int da_nil))))) (dss_cons (ds_if (dt_lt (dv 2) de_int) (dss_one (ds_ret (de_if (dt_gt (de_call C_law_next (hr.mono (by omega)) rfl (da_consR 0 (da_cons de_int da_nil))) de_int) (de_tup (da_cons de_str (da_cons (de_call C_law_pick (hr.mono (by omega)) rfl (da_consR 0 (da_cons (DN.de (dn_lst (da_cons de_str (da_cons de_str da_nil)))) da_nil))) da_nil))) (de_tup (da_cons de_str da_nil))))) dss_nil) (dss_cons (ds_if (dt_lt (dv 2) de_int) (dss_one (ds_ret (de_tup (da_cons (de_call C_law_pick (hr.mono (by omega)) rfl (da_consR 0 (da_cons (DN.de (dn_lst (da_cons de_str (da_cons de_str (da_cons de_str (da_cons de_str da_nil)))))) da_nil))) (da_cons (de_call C_law_sentence (hr.mono (by omega)) rfl (da_consR 0 (da_cons (de_sub (dv 1) de_int) da_nil))) da_nil))))) dss_nil) (dss_cons (ds_setH 3 (O := []) nd (de_call C_law_sentence (hr.mono (by omega)) rfl (da_consR 0 (da_cons (de_sub (dv 1) de_int) da_nil)))) (dss_one (ds_ret (de_tup (da_cons (de_call C_law_pick (hr.mono (by omega)) rfl (da_consR 0 (da_cons (DN.de (dn_lst (da_cons de_str (da_cons de_str (da_cons de_str (da_cons de_str (da_cons de_str (da_cons de_str da_nil)))))))) da_nil))) (da_cons (dv 3) (da_cons (de_call C_law_sentence (hr.mono (by omega)) rfl (da_consR 0 (da_cons (de_sub (dv 1) de_int) da_nil))) da_nil))))))))))⟩
/-! ### _law_world -/
abbrev s_law_world : Stmt := topS 16
theorem sc_law_world : FnScope ["w", "many", "arrows", "k", "p", "name"] ["w"] (defScope s_law_world) := ⟨rfl, rfl, rfl, by decide +kernel, rfl, by decide +kernel, by decide +kernel⟩
def F_law_world {G : Gh} (sem_law_next : Fs G) (sem_law_set : List Ag → Option PyData) : Fst G :=
  (sSeq (sSetH [] 1 (f2 dAdd (fC (.int 1)) (fCall sem_law_next (fConsR 0 (fCons (fC (.int 4)) fNil))))) (sSeq (sSetH [] 2 (fCallP sem_law_set (fCons (fN (fComp (fRange1 (fCall sem_law_next (fConsR 0 (fCons (fC (.int 8)) fNil)))) (bName 3) fYes (fTup (fCons (fCall sem_law_next (fConsR 0 (fCons (fVar 1) fNil))) (fCons (fCall sem_law_next (fConsR 0 (fCons (fVar 1) fNil))) fNil))) [3])) fNil))) (sRet (fTup (fCons (fVar 1) (fCons (fVar 2) (fCons (fB1 (d1 dTuple1) (fCons (fN (fComp (fRange1 (fVar 1)) (bName 4) fYes (fB1 (d1 dTuple1) (fCons (fN (fComp (fItems (fTup (fCons (fC (.str "a")) (fCons (fC (.str "b")) fNil)))) (bName 5) (fB (f2 dEq (fCall sem_law_next (fConsR 0 (fCons (fC (.int 2)) fNil))) (fC (.int 0)))) (fVar 5) [5])) fNil)) [4])) fNil)) fNil)))))))
theorem ok_law_world {G : Gh} {f : Addr} {fd : FuncData} {kk : Nat} (U : Fun K "_law_world" "_law_world" s_law_world f fd) (hm : mg "_law_world" = some (.ref f)) (hb : Binds K fd ["w"] []) (B : NoGl mg ["range", "tuple"])
    {k_law_next : Nat} {sem_law_next : Fs G} (C_law_next : CallOk P w K mg base k_law_next "_law_next" (GSp K G sem_law_next)) (h_law_next : k_law_next ≤ kk + 1)
    {k_law_set : Nat} {sem_law_set : List Ag → Option PyData} (C_law_set : CallOk P w K mg base k_law_set "_law_set" (GSp K G0 (lift sem_law_set))) (h_law_set : k_law_set ≤ kk + 1)
    (sem : Fs G) (hsem : ∀ as g r, sem as g = some r → as.length = 1 ∧ outR (F_law_world sem_law_next sem_law_set (enter 6 as) g) = some r) :
    CallOk P w K mg base (kk + 1 + 1) "_law_world" (GSp K G sem) := by
  refine def_ok (F := F_law_world sem_law_next sem_law_set) U sc_law_world hm hb hsem fun cdv A outer s H E hr => ?_
  have nd := sc_law_world.nd
  exact ⟨_, [], (dss_cons (ds_setH 1 (O := []) nd (de_add de_int (de_call C_law_next (hr.mono (by omega)) rfl (da_consR 0 (da_cons de_int da_nil))))) (dss_cons (ds_setH 2 (O := []) nd (de_callP C_law_set (hr.mono (by omega)) rfl (da_cons (DN.de (dn_lc (own := [("k", 3)]) (is := [3]) rfl nd (di_range1 rfl (B.at "range") (de_call C_law_next (hr.mono (by omega)) rfl (da_consR 0 (da_cons de_int da_nil)))) (blkOk_by (N := ["w", "many", "arrows", "k", "p", "name"]) (sc := defScope s_law_world) (by decide +kernel)) (fun _ _ _ _ _ => (dg_name 3 nd)) (fun _ _ _ _ _ => dts_nil) (fun _ _ _ _ _ => (de_tup (da_cons (de_call C_law_next (hr.mono (by omega)) rfl (da_consR 0 (da_cons (dv 1) da_nil))) (da_cons (de_call C_law_next (hr.mono (by omega)) rfl (da_consR 0 (da_cons (dv 1) da_nil))) da_nil)))))) da_nil))) (dss_one (ds_ret (de_tup (da_cons (dv 1) (da_cons (dv 2) (da_cons (de_callTy acTuple call_tupleF rfl (B.at "tuple") boot_tuple (da_cons (DN.de (dn_lc (own := [("p", 4)]) (is := [4]) rfl nd (di_range1 rfl (B.at "range") (dv 1)) (blkOk_by (N := ["w", "many", "arrows", "k", "p", "name"]) (sc := defScope s_law_world) (by decide +kernel)) (fun _ _ _ _ _ => (dg_name 4 nd)) (fun _ _ _ _ _ => dts_nil) (fun _ _ _ _ _ => (de_callTy acTuple call_tupleF rfl (B.at "tuple") boot_tuple (da_cons (DN.de (dn_lc (own := [("name", 5)]) (is := [5]) rfl nd (di_seq (de_tup (da_cons de_str (da_cons de_str da_nil)))) (blkOk_by (by kernel_rfl)) (fun _ _ _ _ _ => (dg_name 5 nd)) (fun _ _ _ _ _ => (dts_one (dt_eq hr (de_call C_law_next (hr.mono (by omega)) rfl (da_consR 0 (da_cons de_int da_nil))) de_int))) (fun _ _ _ _ _ => (dv 5)))) da_nil))))) da_nil)) da_nil))))))))⟩
/-! ### _law_true -/
abbrev s_law_true : Stmt := topS 17
theorem sc_law_true : FnScope ["world", "here", "point", "sentence", "kind", "one", "other", "told", "left", "p", "begin", "goal"] ["world", "here", "point", "sentence"] (defScope s_law_true) := ⟨rfl, rfl, rfl, by decide +kernel, rfl, by decide +kernel, by decide +kernel⟩
def F_law_true (sem_law_true : List Ag → Option PyData) : Fst G0 :=
  (sSeq (sSetH [] 4 (f2 dIx (fVar 3) (fC (.int 0)))) (sSeq (sIf (fB (f2 dEq (fVar 4) (fC (.str "name")))) (sRet (f2 dIn (f2 dIx (fVar 3) (fC (.int 1))) (f2 dIx (f2 dIx (fVar 0) (fC (.int 2))) (fVar 2)))) sSkip) (sSeq (sIf (fB (f2 dEq (fVar 4) (fC (.str "false")))) (sRet (fC (.bool false))) sSkip) (sSeq (sIf (fB (f2 dIn (fVar 4) (fTup (fCons (fC (.str "box")) (fCons (fC (.str "may")) fNil))))) (sSeq (sSetH [] 7 (fN (fComp (fItems (f2 dIx (fVar 0) (fC (.int 1)))) (bTup 2 (bCons (bName 10) (bCons (bName 11) bNil))) (fAnd (fB (f2 dEq (fVar 10) (fVar 2))) (fB (f2 dIn (fVar 11) (fVar 1)))) (fCallP sem_law_true (fCons (fVar 0) (fCons (fVar 1) (fCons (fVar 11) (fCons (f2 dIx (fVar 3) (fC (.int 1))) fNil))))) [10, 11]))) (sRet (fIf (fB (f2 dEq (fVar 4) (fC (.str "box")))) (f2 dNotIn (fC (.bool false)) (fVar 7)) (f2 dIn (fC (.bool true)) (fVar 7))))) sSkip) (sSeq (sSetH [] 5 (fCallP sem_law_true (fCons (fVar 0) (fCons (fVar 1) (fCons (fVar 2) (fCons (f2 dIx (fVar 3) (fC (.int 1))) fNil)))))) (sSeq (sIf (fB (f2 dEq (fVar 4) (fC (.str "not")))) (sRet (fNotV (fVar 5))) sSkip) (sSeq (sIf (fB (f2 dEq (fVar 4) (fC (.str "said")))) (sSeq (sSetH [] 8 (fN (fComp (fItems (fVar 1)) (bName 9) (fB (fCallP sem_law_true (fCons (fVar 0) (fCons (fVar 1) (fCons (fVar 9) (fCons (f2 dIx (fVar 3) (fC (.int 1))) fNil)))))) (fVar 9) [9]))) (sRet (fOrV (fNotV (fVar 5)) (fCallP sem_law_true (fCons (fVar 0) (fCons (fVar 8) (fCons (fVar 2) (fCons (f2 dIx (fVar 3) (fC (.int 2))) fNil)))))))) sSkip) (sSeq (sSetH [] 6 (fCallP sem_law_true (fCons (fVar 0) (fCons (fVar 1) (fCons (fVar 2) (fCons (f2 dIx (fVar 3) (fC (.int 2))) fNil)))))) (sRet (fIf (fB (f2 dEq (fVar 4) (fC (.str "and")))) (fAndV (fVar 5) (fVar 6)) (fIf (fB (f2 dEq (fVar 4) (fC (.str "or")))) (fOrV (fVar 5) (fVar 6)) (fOrV (fVar 6) (fNotV (fVar 5))))))))))))))
theorem ok_law_true {f : Addr} {fd : FuncData} {kk : Nat} (U : Fun K "_law_true" "_law_true" s_law_true f fd) (hm : mg "_law_true" = some (.ref f)) (hb : Binds K fd ["world", "here", "point", "sentence"] []) (B : NoGl mg [])
    {k_law_true : Nat} {sem_law_true : List Ag → Option PyData} (C_law_true : CallOk P w K mg base k_law_true "_law_true" (GSp K G0 (lift sem_law_true))) (h_law_true : k_law_true ≤ kk + 1)
    (sem : List Ag → Option PyData) (hsem : ∀ as r, sem as = some r → as.length = 4 ∧ outR (F_law_true sem_law_true (enter 12 as) ()) = some (r, ())) :
    CallOk P w K mg base (kk + 1 + 1) "_law_true" (GSp K G0 (lift sem)) := by
  refine def_ok (F := F_law_true sem_law_true) U sc_law_true hm hb (lift_sem hsem) fun cdv A outer s H E hr => ?_
  have nd := sc_law_true.nd
  exact ⟨_, [], (dss_cons (ds_setH 4 (O := []) nd (de_ix (dv 3) de_int)) (dss_cons (ds_if (dt_eq hr (dv 4) de_str) (dss_one (ds_ret (de_in (k := kk) hr (de_ix (dv 3) de_int) (de_ix (de_ix (dv 0) de_int) (dv 2))))) dss_nil) (dss_cons (ds_if (dt_eq hr (dv 4) de_str) (dss_one (ds_ret de_bl)) dss_nil) (dss_cons (ds_if (dt_in (k := kk) hr (dv 4) (de_tup (da_cons de_str (da_cons de_str da_nil)))) (dss_cons (ds_setLcH 7 (O := []) (own := [("begin", 10), ("goal", 11)]) (is := [10, 11]) rfl nd (di_seq (de_ix (dv 0) de_int)) (blkOk_by (N := ["world", "here", "point", "sentence", "kind", "one", "other", "told", "left", "p", "begin", "goal"]) (sc := defScope s_law_true) (by decide +kernel)) (fun _ _ _ _ _ => (dg_tup 2 (dgs_cons (dg_name 10 nd) (dgs_cons (dg_name 11 nd) dgs_nil)))) (fun _ _ _ _ _ => (dts_one (DW.dt (dw_and (dt_eq hr (dv 10) (dv 2)) (dw_and1 (dt_in (k := kk) hr (dv 11) (dv 1))))))) (fun _ _ _ _ _ => (de_callP C_law_true (hr.mono (by omega)) rfl (da_cons (dv 0) (da_cons (dv 1) (da_cons (dv 11) (da_cons (de_ix (dv 3) de_int) da_nil))))))) (dss_one (ds_ret (de_if (dt_eq hr (dv 4) de_str) (de_notIn (k := kk) hr de_bl (dv 7)) (de_in (k := kk) hr de_bl (dv 7)))))) dss_nil) (dss_cons (ds_setH 5 (O := []) nd (de_callP C_law_true (hr.mono (by omega)) rfl (da_cons (dv 0) (da_cons (dv 1) (da_cons (dv 2) (da_cons (de_ix (dv 3) de_int) da_nil)))))) (dss_cons (ds_if (dt_eq hr (dv 4) de_str) (dss_one (ds_ret (de_not (dv 5)))) dss_nil) (dss_cons (ds_if (dt_eq hr (dv 4) de_str) (dss_cons (ds_setLcH 8 (O := []) (own := [("p", 9)]) (is := [9]) rfl nd (di_seq (dv 1)) (blkOk_by (N := ["world", "here", "point", "sentence", "kind", "one", "other", "told", "left", "p", "begin", "goal"]) (sc := defScope s_law_true) (by decide +kernel)) (fun _ _ _ _ _ => (dg_name 9 nd)) (fun _ _ _ _ _ => (dts_one (dt_val (de_callP C_law_true (hr.mono (by omega)) rfl (da_cons (dv 0) (da_cons (dv 1) (da_cons (dv 9) (da_cons (de_ix (dv 3) de_int) da_nil)))))))) (fun _ _ _ _ _ => (dv 9))) (dss_one (ds_ret (de_or (de_not (dv 5)) (de_one (de_callP C_law_true (hr.mono (by omega)) rfl (da_cons (dv 0) (da_cons (dv 8) (da_cons (dv 2) (da_cons (de_ix (dv 3) de_int) da_nil)))))))))) dss_nil) (dss_cons (ds_setH 6 (O := []) nd (de_callP C_law_true (hr.mono (by omega)) rfl (da_cons (dv 0) (da_cons (dv 1) (da_cons (dv 2) (da_cons (de_ix (dv 3) de_int) da_nil)))))) (dss_one (ds_ret (de_if (dt_eq hr (dv 4) de_str) (de_and (dv 5) (de_one (dv 6))) (de_if (dt_eq hr (dv 4) de_str) (de_or (dv 5) (de_one (dv 6))) (de_or (dv 6) (de_one (de_not (dv 5))))))))))))))))⟩
/-! ### _law_left -/
abbrev s_law_left : Stmt := topS 18
theorem sc_law_left : FnScope ["world", "sentence", "here", "points", "arrows", "p", "a", "b"] ["world", "sentence"] (defScope s_law_left) := ⟨rfl, rfl, rfl, by decide +kernel, rfl, by decide +kernel, by decide +kernel⟩
def F_law_left (sem_law_true : List Ag → Option PyData) (sem_law_set : List Ag → Option PyData) : Fst G0 :=
  (sSeq (sSetH [] 2 (fN (fRangeL (f2 dIx (fVar 0) (fC (.int 0)))))) (sSeq (sSetH [] 3 (fB1 (d1 dTuple1) (fCons (fN (fComp (fItems (fVar 2)) (bName 5) (fB (fCallP sem_law_true (fCons (fVar 0) (fCons (fVar 2) (fCons (fVar 5) (fCons (fVar 1) fNil)))))) (fVar 5) [5])) fNil))) (sSeq (sIf (fB (f2 dEq (fVar 3) (fTup fNil))) (sRet (fC .none)) sSkip) (sSeq (sSetH [] 4 (fCallP sem_law_set (fCons (fN (fComp (fItems (f2 dIx (fVar 0) (fC (.int 1)))) (bTup 2 (bCons (bName 6) (bCons (bName 7) bNil))) (fAnd (fB (f2 dIn (fVar 6) (fVar 3))) (fB (f2 dIn (fVar 7) (fVar 3)))) (fTup (fCons (fM dIndex (fVar 3) (fCons (fVar 6) fNil)) (fCons (fM dIndex (fVar 3) (fCons (fVar 7) fNil)) fNil))) [6, 7])) fNil))) (sRet (fTup (fCons (fTup (fCons (fB1 dLen (fCons (fVar 3) fNil)) (fCons (fVar 4) (fCons (fB1 (d1 dTuple1) (fCons (fN (fComp (fItems (fVar 3)) (bName 5) fYes (f2 dIx (f2 dIx (fVar 0) (fC (.int 2))) (fVar 5)) [5])) fNil)) fNil)))) (fCons (fVar 3) fNil))))))))
theorem ok_law_left {f : Addr} {fd : FuncData} {kk : Nat} (U : Fun K "_law_left" "_law_left" s_law_left f fd) (hm : mg "_law_left" = some (.ref f)) (hb : Binds K fd ["world", "sentence"] []) (B : NoGl mg ["len", "list", "range", "tuple"])
    {k_law_true : Nat} {sem_law_true : List Ag → Option PyData} (C_law_true : CallOk P w K mg base k_law_true "_law_true" (GSp K G0 (lift sem_law_true))) (h_law_true : k_law_true ≤ kk + 1)
    {k_law_set : Nat} {sem_law_set : List Ag → Option PyData} (C_law_set : CallOk P w K mg base k_law_set "_law_set" (GSp K G0 (lift sem_law_set))) (h_law_set : k_law_set ≤ kk + 1)
    (sem : List Ag → Option PyData) (hsem : ∀ as r, sem as = some r → as.length = 2 ∧ outR (F_law_left sem_law_true sem_law_set (enter 8 as) ()) = some (r, ())) :
    CallOk P w K mg base (kk + 1 + 1) "_law_left" (GSp K G0 (lift sem)) := by
  refine def_ok (F := F_law_left sem_law_true sem_law_set) U sc_law_left hm hb (lift_sem hsem) fun cdv A outer s H E hr => ?_
  have nd := sc_law_left.nd
  exact ⟨_, [], (dss_cons (ds_setH 2 (O := []) nd (DN.de (dn_listRange rfl (B.at "list") rfl (B.at "range") (de_ix (dv 0) de_int)))) (dss_cons (ds_setH 3 (O := []) nd (de_callTy acTuple call_tupleF rfl (B.at "tuple") boot_tuple (da_cons (DN.de (dn_lc (own := [("p", 5)]) (is := [5]) rfl nd (di_seq (dv 2)) (blkOk_by (N := ["world", "sentence", "here", "points", "arrows", "p", "a", "b"]) (sc := defScope s_law_left) (by decide +kernel)) (fun _ _ _ _ _ => (dg_name 5 nd)) (fun _ _ _ _ _ => (dts_one (dt_val (de_callP C_law_true (hr.mono (by omega)) rfl (da_cons (dv 0) (da_cons (dv 2) (da_cons (dv 5) (da_cons (dv 1) da_nil)))))))) (fun _ _ _ _ _ => (dv 5)))) da_nil))) (dss_cons (ds_if (dt_eq hr (dv 3) (de_tup da_nil)) (dss_one (ds_ret de_non)) dss_nil) (dss_cons (ds_setH 4 (O := []) nd (de_callP C_law_set (hr.mono (by omega)) rfl (da_cons (DN.de (dn_lc (own := [("a", 6), ("b", 7)]) (is := [6, 7]) rfl nd (di_seq (de_ix (dv 0) de_int)) (blkOk_by (N := ["world", "sentence", "here", "points", "arrows", "p", "a", "b"]) (sc := defScope s_law_left) (by decide +kernel)) (fun _ _ _ _ _ => (dg_tup 2 (dgs_cons (dg_name 6 nd) (dgs_cons (dg_name 7 nd) dgs_nil)))) (fun _ _ _ _ _ => (dts_one (DW.dt (dw_and (dt_in (k := kk) hr (dv 6) (dv 3)) (dw_and1 (dt_in (k := kk) hr (dv 7) (dv 3))))))) (fun _ _ _ _ _ => (de_tup (da_cons (de_indexT (k := kk) hr (dv 3) (da_cons (dv 6) da_nil)) (da_cons (de_indexT (k := kk) hr (dv 3) (da_cons (dv 7) da_nil)) da_nil)))))) da_nil))) (dss_one (ds_ret (de_tup (da_cons (de_tup (da_cons (de_callB acLen L2.call_len rfl (B.at "len") boot_len (da_cons (dv 3) da_nil)) (da_cons (dv 4) (da_cons (de_callTy acTuple call_tupleF rfl (B.at "tuple") boot_tuple (da_cons (DN.de (dn_lc (own := [("p", 5)]) (is := [5]) rfl nd (di_seq (dv 3)) (blkOk_by (N := ["world", "sentence", "here", "points", "arrows", "p", "a", "b"]) (sc := defScope s_law_left) (by decide +kernel)) (fun _ _ _ _ _ => (dg_name 5 nd)) (fun _ _ _ _ _ => dts_nil) (fun _ _ _ _ _ => (de_ix (de_ix (dv 0) de_int) (dv 5))))) da_nil)) da_nil)))) (da_cons (dv 3) da_nil)))))))))⟩
/-! ### _law_is_without -/
abbrev s_law_is_without : Stmt := topS 19
theorem sc_law_is_without : FnScope ["thing", "many", "part"] ["thing"] (defScope s_law_is_without) := ⟨rfl, rfl, rfl, by decide +kernel, rfl, by decide +kernel, by decide +kernel⟩
def F_law_is_without (sem_law_is_without : List Ag → Option PyData) : Fst G0 :=
  (sSeq (sIf (fOr (fNot (fB (f1 (dIsi "tuple") (fVar 0)))) (fOr (fB (f2 dEq (fVar 0) (fTup fNil))) (fNot (fB (f1 (dIsi "str") (f2 dIx (fVar 0) (fC (.int 0)))))))) (sRet (fC (.bool false))) sSkip) (sSeq (sIf (fB (f2 dEq (f2 dIx (fVar 0) (fC (.int 0))) (fC (.str "name")))) (sRet (fAndV (f2 dEq (fB1 dLen (fCons (fVar 0) fNil)) (fC (.int 2))) (f1 (dIsi "str") (f2 dIx (fVar 0) (fC (.int 1)))))) sSkip) (sSeq (sSetH [] 1 (f3 dGet2 (fDict (fpCons (fC (.str "false")) (fC (.int 1)) (fpCons (fC (.str "not")) (fC (.int 2)) (fpCons (fC (.str "and")) (fC (.int 3)) (fpCons (fC (.str "or")) (fC (.int 3)) (fpCons (fC (.str "then")) (fC (.int 3)) (fpCons (fC (.str "box")) (fC (.int 2)) (fpCons (fC (.str "may")) (fC (.int 2)) fpNil)))))))) (f2 dIx (fVar 0) (fC (.int 0))) (fC (.int 0)))) (sRet (fAndV (f2 dEq (fB1 dLen (fCons (fVar 0) fNil)) (fVar 1)) (f2 dEq (fN (fComp (fItems (fSl (fVar 0) (fPart (some (fC (.int 1)))) (fPart none))) (bName 2) (fNot (fB (fCallP sem_law_is_without (fCons (fVar 2) fNil)))) (fVar 2) [2])) (fN (fLst fNil))))))))
theorem ok_law_is_without {f : Addr} {fd : FuncData} {kk : Nat} (U : Fun K "_law_is_without" "_law_is_without" s_law_is_without f fd) (hm : mg "_law_is_without" = some (.ref f)) (hb : Binds K fd ["thing"] []) (B : NoGl mg ["isinstance", "len", "str", "tuple"])
    {k_law_is_without : Nat} {sem_law_is_without : List Ag → Option PyData} (C_law_is_without : CallOk P w K mg base k_law_is_without "_law_is_without" (GSp K G0 (lift sem_law_is_without))) (h_law_is_without : k_law_is_without ≤ kk + 1)
    (sem : List Ag → Option PyData) (hsem : ∀ as r, sem as = some r → as.length = 1 ∧ outR (F_law_is_without sem_law_is_without (enter 3 as) ()) = some (r, ())) :
    CallOk P w K mg base (kk + 1 + 1) "_law_is_without" (GSp K G0 (lift sem)) := by
  refine def_ok (F := F_law_is_without sem_law_is_without) U sc_law_is_without hm hb (lift_sem hsem) fun cdv A outer s H E hr => ?_
  have nd := sc_law_is_without.nd
  exact ⟨_, [], (dss_cons (ds_if (DW.dt (dw_or (dt_not (dt_val (de_isi (T := "tuple") (by decide) (dv 0) rfl (B.at "isinstance") rfl (B.at "tuple") PyProof.Rows.boot_tuple))) (dw_or (dt_eq hr (dv 0) (de_tup da_nil)) (dw_or1 (dt_not (dt_val (de_isi (T := "str") (by decide) (de_ix (dv 0) de_int) rfl (B.at "isinstance") rfl (B.at "str") PyProof.Rows.boot_str))))))) (dss_one (ds_ret de_bl)) dss_nil) (dss_cons (ds_if (dt_eq hr (de_ix (dv 0) de_int) de_str) (dss_one (ds_ret (de_and (de_eq hr (de_callB acLen L2.call_len rfl (B.at "len") boot_len (da_cons (dv 0) da_nil)) de_int) (de_one (de_isi (T := "str") (by decide) (de_ix (dv 0) de_int) rfl (B.at "isinstance") rfl (B.at "str") PyProof.Rows.boot_str))))) dss_nil) (dss_cons (ds_setH 1 (O := []) nd (de_get2 hr (de_dict (dp_cons de_str de_int (dp_cons de_str de_int (dp_cons de_str de_int (dp_cons de_str de_int (dp_cons de_str de_int (dp_cons de_str de_int (dp_cons de_str de_int dp_nil)))))))) (de_ix (dv 0) de_int) de_int)) (dss_one (ds_ret (de_and (de_eq hr (de_callB acLen L2.call_len rfl (B.at "len") boot_len (da_cons (dv 0) da_nil)) (dv 1)) (de_one (de_eq hr (DN.de (dn_lc (own := [("part", 2)]) (is := [2]) rfl nd (di_seq (de_sl (dv 0) (do_some de_int) do_none)) (blkOk_by (N := ["thing", "many", "part"]) (sc := defScope s_law_is_without) (by decide +kernel)) (fun _ _ _ _ _ => (dg_name 2 nd)) (fun _ _ _ _ _ => (dts_one (dt_not (dt_val (de_callP C_law_is_without (hr.mono (by omega)) rfl (da_cons (dv 2) da_nil)))))) (fun _ _ _ _ _ => (dv 2)))) (DN.de (dn_lst da_nil))))))))))⟩
abbrev s_law_next : Stmt := topS 11
theorem sc_law_next : FnScope ["w", "many"] ["w", "many"] (defScope s_law_next) := ⟨rfl, rfl, rfl, by decide +kernel, rfl, by decide +kernel, by decide +kernel⟩
theorem next_ok {kk : Nat} (T : At K mg "_law_next" s_law_next ["w", "many"]) (B : NoGl mg ["int", "len"]) (ds : List Int) (aw ad : Addr) :
    CallOk P w K mg base (kk + 1 + 1) "_law_next" (GSp K (WG ds aw ad) (semNext ds aw ad)) := by
  obtain ⟨f, fd, U, hm, hb⟩ := T.ex
  refine ⟨f, fd, ["w", "many"], U.ok sc_law_next (fun vs H Q E h => ?_) (fun cdv A outer s H vs Q E hr h => ?_), hm, U.kp, hb⟩
  · obtain ⟨S, as, g, d, g', _, r, _, _, _, e, _⟩ := h
    unfold semNext at e
    split at e
    · rw [r.length]; rfl
    · cases e
  · obtain ⟨S, as, g, d, g', sh, r, ok, gs, gh, e, q⟩ := h
    change Nat at g
    unfold semNext at e
    split at e
    · rename_i a m
      split at e
      · rename_i hc
        obtain ⟨rfl, hm0, hlen⟩ := hc
        cases e
        cases r with
        | cons r1 r2 =>
          cases r2 with
          | cons r2 r3 =>
            cases r3
            cases r1
            cases r2 with
            | d r2 =>
              cases r2
              obtain ⟨o1, o2⟩ := ok
              have hu := hu_of hr
              have nd := sc_law_next.nd
              refine ⟨_, pss_cons (ps_daug hu (pv 0) pe_str pe_int in_add (fun _ _ _ => rfl))
                (pss_cons (ps_if (pt_cmpR op_gt (pe_dget hu (pv 0) pe_str (fun _ _ => rfl)) (pe_callB L2.call_len (by rfl) (B.at "len") boot_len (pa_cons (pe_dget hu (pv 0) pe_str (fun _ _ => rfl)) pa_nil)) (nomark _)) (pss_one (ps_ret pe_int)) pss_nil)
                (pss_one (ps_ret (pe_op op_mod (pe_callTy L2.call_int1 (by rfl) (B.at "int") boot_int (pa_cons (pe_ix ix_list (pe_dget hu (pv 0) pe_str (fun _ _ => rfl)) (pe_op op_sub (pe_dget hu (pv 0) pe_str (fun _ _ => rfl)) pe_int) (fun _ _ => rfl)) pa_nil)) (pv 1))))), ?_⟩
              have ne : ad ≠ a := fun z => by subst z; rw [o1] at o2; cases o2
              have hg : (g : Int) + 1 = ((g + 1 : Nat) : Int) := by omega
              have gA : ∀ (H : Hp) (n : Int), H a = some (.dK [(.inr "draws", .ref ad), (.inr "at", .int n)]) → DGet H a (.str "at") (some (.int n)) := fun H n h => by
                have := DGet.k (k := .inr "at") h
                exact this
              have gD : ∀ (H : Hp) (n : Int), H a = some (.dK [(.inr "draws", .ref ad), (.inr "at", .int n)]) → DGet H a (.str "draws") (some (.ref ad)) := fun H n h => by
                have := DGet.k (k := .inr "draws") h
                exact this
              have pu : DPut H a (.str "at") (.int ((g : Int) + 1)) (upd H a (.dK [(.inr "draws", .ref ad), (.inr "at", .int ((g + 1 : Nat) : Int))])) := by
                rw [← hg]
                exact DPut.k (k := .inr "at") o1 (by show 2 < sizeLine; decide)
              refine ⟨_, rfl, a, .int g, rfl, gA H g o1, _, _, rfl, rfl, _, pu, ?_⟩
              have h1 : upd H a (.dK [(.inr "draws", .ref ad), (.inr "at", .int ((g + 1 : Nat) : Int))]) a = some (.dK [(.inr "draws", .ref ad), (.inr "at", .int ((g + 1 : Nat) : Int))]) := upd_same
              have h2 : upd H a (.dK [(.inr "draws", .ref ad), (.inr "at", .int ((g + 1 : Nat) : Int))]) ad = some (.lst (ds.map V.int)) := by rw [upd_ne ne]; exact o2
              have fin : Q (.int (nxt ds g m)) (upd H a (.dK [(.inr "draws", .ref ad), (.inr "at", .int ((g + 1 : Nat) : Int))])) := by
                refine q _ S _ ⟨Same.refl _, fun b o hb ho => ?_, fun b _ h => h, fun b h => ?_⟩ (fun b o ho => ?_) ⟨h1, h2⟩ (.int _)
                · rw [upd_ne fun z => hb (.inl z)]; exact ho
                · by_cases z : b = a
                  · subst z; rw [upd_same]; exact fun z => nomatch z
                  · rw [upd_ne z]; exact h
                · rw [upd_ne fun z => by subst z; rw [gs _ (.inl rfl)] at ho; cases ho]; exact sh b o ho
              have hL : (ds.map V.int).length = ds.length := List.length_map _
              refine ⟨_, rfl, a, .int ((g + 1 : Nat) : Int), rfl, gA _ _ h1, _, rfl, a, .ref ad, rfl, gD _ _ h1, .ref ad, ds.length, rfl, .inl ⟨_, SqL.of h2, hL.symm⟩, _, _, rfl, rfl, _, rfl, ?_⟩
              refine ite2 (fun c => ?_) (fun c => ?_)
              · have c' : (ds.length : Int) < ((g + 1 : Nat) : Int) := of_decide_eq_true c
                have e0 : nxt ds g m = 0 := by
                  unfold nxt
                  rw [if_neg (by omega)]
                have := fin
                rw [e0] at this
                exact this
              · have c' : ¬ (ds.length : Int) < ((g + 1 : Nat) : Int) := of_decide_eq_false (Bool.eq_false_iff.mpr c)
                have hlt : g < ds.length := by omega
                have e0 : nxt ds g m = ds.getD g 0 % m := by
                  unfold nxt
                  rw [if_pos hlt]
                have hat : atI (ds.map V.int) (((g + 1 : Nat) : Int) - 1) = some (.int (ds.getD g 0)) := by
                  have e1 : ((g + 1 : Nat) : Int) - 1 = (g : Int) := by omega
                  rw [e1]
                  refine atI_nat ?_
                  rw [List.getElem?_map, List.getElem?_eq_getElem hlt, List.getD_eq_getElem?_getD, List.getElem?_eq_getElem hlt]
                  rfl
                refine ⟨_, rfl, a, .ref ad, rfl, gD _ _ h1, _, rfl, a, .int ((g + 1 : Nat) : Int), rfl, gA _ _ h1, _, _, rfl, rfl, ad, _, _, _, rfl, rfl, SqL.of h2, hat, .inl ⟨_, rfl, _, rfl, _, _, rfl, rfl, hm0, ?_⟩⟩
                have := fin
                rw [e0] at this
                exact this
      · cases e
    · cases e

/-! ## the semantics -/
end
def S_kids_of : List Ag → Option PyData := semP 1 1 (F_kids_of )
def S_goals_of : List Ag → Option (List PyData) := semPN 2 4 (F_goals_of )
mutual
def S_world_said : Nat → List Ag → Option PyData
  | 0 => fun _ => none
  | n + 1 => semP 2 7 (F_world_said (S_true_said n))
def S_true_said : Nat → List Ag → Option PyData
  | 0 => fun _ => none
  | n + 1 => semP 3 10 (F_true_said (S_true_said n) (S_world_said n) (S_goals_of))
end
def S_behind : Nat → List Ag → Option PyData
  | 0 => fun _ => none
  | n + 1 => semP 2 5 (F_behind (S_kids_of) (S_behind n))
def S_without_said : Nat → List Ag → Option PyData
  | 0 => fun _ => none
  | n + 1 => semP 1 3 (F_without_said (S_kids_of) (S_without_said n) (S_behind 64))
def S_law_draws : List Ag → Option (List PyData) := semPN 2 8 (F_law_draws )
def S_law_pick (ds : List Int) (aw ad : Addr) : Fs (WG ds aw ad) := semG 2 2 (F_law_pick (semNext ds aw ad))
def S_law_alike : Nat → List Ag → Option PyData
  | 0 => fun _ => none
  | n + 1 => semP 2 3 (F_law_alike (S_law_alike n))
def S_law_set : List Ag → Option PyData := semP 1 3 (F_law_set )
def S_law_sentence (ds : List Int) (aw ad : Addr) : Nat → Fs (WG ds aw ad)
  | 0 => fun _ _ => none
  | n + 1 => semG 2 4 (F_law_sentence (semNext ds aw ad) (S_law_pick ds aw ad) (S_law_sentence ds aw ad n))
def S_law_world (ds : List Int) (aw ad : Addr) : Fs (WG ds aw ad) := semG 1 6 (F_law_world (semNext ds aw ad) (S_law_set))
def S_law_true : Nat → List Ag → Option PyData
  | 0 => fun _ => none
  | n + 1 => semP 4 12 (F_law_true (S_law_true n))
def S_law_left : List Ag → Option PyData := semP 2 8 (F_law_left (S_law_true 64) (S_law_set))
def S_law_is_without : Nat → List Ag → Option PyData
  | 0 => fun _ => none
  | n + 1 => semP 1 3 (F_law_is_without (S_law_is_without n))
section
variable {P : Program} {w : World} {K : PySem.W.Frag} {mg : Str → Option Value} {base : Heap}
structure Tx (K : PySem.W.Frag) (mg : Str → Option Value) : Prop where
  t_kids_of : At K mg "kids_of" s_kids_of ["sentence"]
  t_goals_of : At K mg "goals_of" s_goals_of ["world", "point"]
  t_world_said : At K mg "world_said" s_world_said ["world", "sentence"]
  t_true_said : At K mg "true_said" s_true_said ["world", "point", "sentence"]
  t_behind : At K mg "behind" s_behind ["first", "sentence"]
  t_without_said : At K mg "without_said" s_without_said ["sentence"]
  t_law_draws : At K mg "_law_draws" s_law_draws ["script", "many"]
  t_law_pick : At K mg "_law_pick" s_law_pick ["w", "rows"]
  t_law_alike : At K mg "_law_alike" s_law_alike ["told", "due"]
  t_law_set : At K mg "_law_set" s_law_set ["things"]
  t_law_sentence : At K mg "_law_sentence" s_law_sentence ["w", "depth"]
  t_law_world : At K mg "_law_world" s_law_world ["w"]
  t_law_true : At K mg "_law_true" s_law_true ["world", "here", "point", "sentence"]
  t_law_left : At K mg "_law_left" s_law_left ["world", "sentence"]
  t_law_is_without : At K mg "_law_is_without" s_law_is_without ["thing"]
  t_law_next : At K mg "_law_next" s_law_next ["w", "many"]
  B : NoGl mg ["abs", "all", "any", "bool", "int", "isinstance", "len", "list", "range", "sorted", "str", "tuple"]
theorem c_kids_of (T : Tx K mg) : CallOk P w K mg base 2 "kids_of" (GSp K G0 (lift (S_kids_of))) := by
  obtain ⟨f, fd, U, hm, hb⟩ := T.t_kids_of.ex
  exact ok_kids_of (kk := 0) U hm hb (T.B.sub (by decide +kernel))  _ semP_ok
theorem c_goals_of (T : Tx K mg) : CallOk P w K mg base 2 "goals_of" (GSpN K G0 (liftN (S_goals_of))) := by
  obtain ⟨f, fd, U, hm, hb⟩ := T.t_goals_of.ex
  exact ok_goals_of (kk := 0) U hm hb (T.B.sub (by decide +kernel))  _ semPN_ok
theorem cs_world_said_true_said (T : Tx K mg) : ∀ n : Nat, CallOk P w K mg base (3 + n) "world_said" (GSp K G0 (lift (S_world_said n))) ∧ CallOk P w K mg base (3 + n) "true_said" (GSp K G0 (lift (S_true_said n)))
  | 0 => ⟨T.t_world_said.none noP, T.t_true_said.none noP⟩
  | n + 1 => by
    have ih := cs_world_said_true_said T n
    refine ⟨?_, ?_⟩
    · obtain ⟨f, fd, U, hm, hb⟩ := T.t_world_said.ex
      have h := ok_world_said (P := P) (w := w) (base := base) (kk := 2 + n) U hm hb (T.B.sub (by decide +kernel)) ih.2 (by omega) _ semP_ok
      exact h.mono (by omega)
    · obtain ⟨f, fd, U, hm, hb⟩ := T.t_true_said.ex
      have h := ok_true_said (P := P) (w := w) (base := base) (kk := 2 + n) U hm hb (T.B.sub (by decide +kernel)) ih.2 (by omega) ih.1 (by omega) (c_goals_of T) (by omega) _ semP_ok
      exact h.mono (by omega)
theorem c_world_said (T : Tx K mg) : CallOk P w K mg base 33 "world_said" (GSp K G0 (lift (S_world_said 30))) := (cs_world_said_true_said T 30).1
theorem c_true_said (T : Tx K mg) : CallOk P w K mg base 33 "true_said" (GSp K G0 (lift (S_true_said 30))) := (cs_world_said_true_said T 30).2
theorem cs_behind (T : Tx K mg) : ∀ n : Nat, CallOk P w K mg base (3 + n) "behind" (GSp K G0 (lift (S_behind n)))
  | 0 => T.t_behind.none noP
  | n + 1 => by
    have ih := cs_behind T n
    obtain ⟨f, fd, U, hm, hb⟩ := T.t_behind.ex
    have h := ok_behind (P := P) (w := w) (base := base) (kk := 2 + n) U hm hb (T.B.sub (by decide +kernel)) (c_kids_of T) (by omega) ih (by omega) _ semP_ok
    exact h.mono (by omega)
theorem c_behind (T : Tx K mg) : CallOk P w K mg base 67 "behind" (GSp K G0 (lift (S_behind 64))) := (cs_behind T 64)
theorem cs_without_said (T : Tx K mg) : ∀ n : Nat, CallOk P w K mg base (68 + n) "without_said" (GSp K G0 (lift (S_without_said n)))
  | 0 => T.t_without_said.none noP
  | n + 1 => by
    have ih := cs_without_said T n
    obtain ⟨f, fd, U, hm, hb⟩ := T.t_without_said.ex
    have h := ok_without_said (P := P) (w := w) (base := base) (kk := 67 + n) U hm hb (T.B.sub (by decide +kernel)) (c_kids_of T) (by omega) ih (by omega) (c_behind T) (by omega) _ semP_ok
    exact h.mono (by omega)
theorem c_without_said (T : Tx K mg) : CallOk P w K mg base 78 "without_said" (GSp K G0 (lift (S_without_said 10))) := (cs_without_said T 10)
theorem c_law_draws (T : Tx K mg) : CallOk P w K mg base 2 "_law_draws" (GSpN K G0 (liftN (S_law_draws))) := by
  obtain ⟨f, fd, U, hm, hb⟩ := T.t_law_draws.ex
  exact ok_law_draws (kk := 0) U hm hb (T.B.sub (by decide +kernel))  _ semPN_ok
theorem c_law_pick (T : Tx K mg) (ds : List Int) (aw ad : Addr) : CallOk P w K mg base 3 "_law_pick" (GSp K (WG ds aw ad) (S_law_pick ds aw ad)) := by
  obtain ⟨f, fd, U, hm, hb⟩ := T.t_law_pick.ex
  exact ok_law_pick (kk := 1) U hm hb (T.B.sub (by decide +kernel)) (next_ok (kk := 0) T.t_law_next (T.B.sub (by decide +kernel)) ds aw ad) (by decide) _ semG_ok
theorem cs_law_alike (T : Tx K mg) : ∀ n : Nat, CallOk P w K mg base (2 + n) "_law_alike" (GSp K G0 (lift (S_law_alike n)))
  | 0 => T.t_law_alike.none noP
  | n + 1 => by
    have ih := cs_law_alike T n
    obtain ⟨f, fd, U, hm, hb⟩ := T.t_law_alike.ex
    have h := ok_law_alike (P := P) (w := w) (base := base) (kk := 1 + n) U hm hb (T.B.sub (by decide +kernel)) ih (by omega) _ semP_ok
    exact h.mono (by omega)
theorem c_law_alike (T : Tx K mg) : CallOk P w K mg base 12 "_law_alike" (GSp K G0 (lift (S_law_alike 10))) := (cs_law_alike T 10)
theorem c_law_set (T : Tx K mg) : CallOk P w K mg base 2 "_law_set" (GSp K G0 (lift (S_law_set))) := by
  obtain ⟨f, fd, U, hm, hb⟩ := T.t_law_set.ex
  exact ok_law_set (kk := 0) U hm hb (T.B.sub (by decide +kernel))  _ semP_ok
theorem cs_law_sentence (T : Tx K mg) (ds : List Int) (aw ad : Addr) : ∀ n : Nat, CallOk P w K mg base (4 + n) "_law_sentence" (GSp K (WG ds aw ad) (S_law_sentence ds aw ad n))
  | 0 => T.t_law_sentence.none noG
  | n + 1 => by
    have ih := cs_law_sentence T ds aw ad n
    obtain ⟨f, fd, U, hm, hb⟩ := T.t_law_sentence.ex
    have h := ok_law_sentence (P := P) (w := w) (base := base) (kk := 3 + n) U hm hb (T.B.sub (by decide +kernel)) (next_ok (kk := 0) T.t_law_next (T.B.sub (by decide +kernel)) ds aw ad) (by omega) (c_law_pick T ds aw ad) (by omega) ih (by omega) _ semG_ok
    exact h.mono (by omega)
theorem c_law_sentence (T : Tx K mg) (ds : List Int) (aw ad : Addr) : CallOk P w K mg base 14 "_law_sentence" (GSp K (WG ds aw ad) (S_law_sentence ds aw ad 10)) := (cs_law_sentence T ds aw ad 10)
theorem c_law_world (T : Tx K mg) (ds : List Int) (aw ad : Addr) : CallOk P w K mg base 3 "_law_world" (GSp K (WG ds aw ad) (S_law_world ds aw ad)) := by
  obtain ⟨f, fd, U, hm, hb⟩ := T.t_law_world.ex
  exact ok_law_world (kk := 1) U hm hb (T.B.sub (by decide +kernel)) (next_ok (kk := 0) T.t_law_next (T.B.sub (by decide +kernel)) ds aw ad) (by decide) (c_law_set T) (by decide) _ semG_ok
theorem cs_law_true (T : Tx K mg) : ∀ n : Nat, CallOk P w K mg base (2 + n) "_law_true" (GSp K G0 (lift (S_law_true n)))
  | 0 => T.t_law_true.none noP
  | n + 1 => by
    have ih := cs_law_true T n
    obtain ⟨f, fd, U, hm, hb⟩ := T.t_law_true.ex
    have h := ok_law_true (P := P) (w := w) (base := base) (kk := 1 + n) U hm hb (T.B.sub (by decide +kernel)) ih (by omega) _ semP_ok
    exact h.mono (by omega)
theorem c_law_true (T : Tx K mg) : CallOk P w K mg base 66 "_law_true" (GSp K G0 (lift (S_law_true 64))) := (cs_law_true T 64)
theorem c_law_left (T : Tx K mg) : CallOk P w K mg base 67 "_law_left" (GSp K G0 (lift (S_law_left))) := by
  obtain ⟨f, fd, U, hm, hb⟩ := T.t_law_left.ex
  exact ok_law_left (kk := 65) U hm hb (T.B.sub (by decide +kernel)) (c_law_true T) (by decide) (c_law_set T) (by decide) _ semP_ok
theorem cs_law_is_without (T : Tx K mg) : ∀ n : Nat, CallOk P w K mg base (2 + n) "_law_is_without" (GSp K G0 (lift (S_law_is_without n)))
  | 0 => T.t_law_is_without.none noP
  | n + 1 => by
    have ih := cs_law_is_without T n
    obtain ⟨f, fd, U, hm, hb⟩ := T.t_law_is_without.ex
    have h := ok_law_is_without (P := P) (w := w) (base := base) (kk := 1 + n) U hm hb (T.B.sub (by decide +kernel)) ih (by omega) _ semP_ok
    exact h.mono (by omega)
theorem c_law_is_without (T : Tx K mg) : CallOk P w K mg base 66 "_law_is_without" (GSp K G0 (lift (S_law_is_without 64))) := (cs_law_is_without T 64)
abbrev s_law : Stmt := topS 20
theorem sc_law : FnScope ["script", "w", "turn", "one", "sentence", "plain", "k", "world", "here", "point", "due"] ["script"] (defScope s_law) := ⟨rfl, rfl, rfl, by decide +kernel, rfl, by decide +kernel, by decide +kernel⟩
def FD : Fl G0 := (fCallPN (S_law_draws) (fCons (fVar 0) (fCons (fC (.int 800)) fNil)))
def FL (ds : List Int) (aw ad : Addr) : Fst (WG ds aw ad) := (sSeq (sForH [] (fRange1 (fC (.int 4))) (bName 2) (sSeq (sSetH [] 4 (fCall (S_law_sentence ds aw ad 10) (fConsR 1 (fCons (fC (.int 3)) fNil)))) (sSeq (sSetH [] 5 (fCallP (S_without_said 10) (fCons (fVar 4) fNil))) (sSeq (sIf (fNot (fB (fCallP (S_law_is_without 64) (fCons (fVar 5) fNil)))) (sRet (fC (.bool false))) sSkip) (sForH [] (fRange1 (fC (.int 4))) (bName 6) (sSeq (sSetH [] 7 (fCall (S_law_world ds aw ad) (fConsR 1 fNil))) (sSeq (sSetH [] 8 (fN (fRangeL (f2 dIx (fVar 7) (fC (.int 0)))))) (sSeq (sForH [] (fItems (fVar 8)) (bName 9) (sSeq (sSetH [] 10 (fCallP (S_law_true 64) (fCons (fVar 7) (fCons (fVar 8) (fCons (fVar 9) (fCons (fVar 4) fNil)))))) (sIf (fOr (fNot (fB (fCallP (S_law_alike 10) (fCons (fCallP (S_true_said 30) (fCons (fVar 7) (fCons (fVar 9) (fCons (fVar 4) fNil)))) (fCons (fVar 10) fNil))))) (fB (f2 dNe (fCallP (S_law_true 64) (fCons (fVar 7) (fCons (fVar 8) (fCons (fVar 9) (fCons (fVar 5) fNil))))) (fVar 10)))) (sRet (fC (.bool false))) sSkip))) (sIf (fNot (fB (fCallP (S_law_alike 10) (fCons (fCallP (S_world_said 30) (fCons (fVar 7) (fCons (fVar 4) fNil))) (fCons (fCallP (S_law_left) (fCons (fVar 7) (fCons (fVar 4) fNil))) fNil))))) (sRet (fC (.bool false))) sSkip))))))))) (sSeq (sSetH [] 3 (fTup (fCons (fC (.str "said")) (fCons (fTup (fCons (fC (.str "may")) (fCons (fTup (fCons (fC (.str "name")) (fCons (fC (.str "a")) fNil))) fNil))) (fCons (fTup (fCons (fC (.str "may")) (fCons (fTup (fCons (fC (.str "name")) (fCons (fC (.str "a")) fNil))) fNil))) fNil))))) (sRet (fCallP (S_law_alike 10) (fCons (fCallP (S_true_said 30) (fCons (fTup (fCons (fC (.int 2)) (fCons (fTup (fCons (fTup (fCons (fC (.int 0)) (fCons (fC (.int 1)) fNil))) fNil)) (fCons (fTup (fCons (fTup fNil) (fCons (fTup (fCons (fC (.str "a")) fNil)) fNil))) fNil)))) (fCons (fC (.int 0)) (fCons (fVar 3) fNil)))) (fCons (fC (.bool false)) fNil))))))
/-- THE PLAIN LAW -/
def Main : Prop := ∀ ns : List Int, ns.length ≤ 63 → ∃ (dd : List PyData) (is : List Int), FD (enter 11 [.d (.list (ns.map .int))]) () = some (dd, ()) ∧ allI dd = some is ∧ ∀ (aw ad : Addr), ∃ g, FL is aw ad ((enter 11 [.d (.list (ns.map .int))]).set 1 (.rf aw)) (0 : Nat) = some (.rt (.bool true) g)
theorem law_ok {f : Addr} {fd : FuncData} (T : Tx K mg) (U : Fun K "law" "law" s_law f fd) (M : Main) : FnOk P w K mg base CX0 79 f fd ["script"] (spLaw K) := by
  refine U.ok sc_law (fun vs H Q E h => ?_) (fun cdv A outer s H vs Q E hr h => ?_)
  · obtain ⟨a, ns, rfl, _⟩ := h
    rfl
  obtain ⟨a, ns, rfl, hS, hl, q⟩ := h
  obtain ⟨dd, is, e1, e2, e3⟩ := M ns hl
  have nd := sc_law.nd
  have B := T.B
  have C_law_draws := fun (ds : List Int) (aw ad : Addr) => (c_law_draws (P := P) (w := w) (base := base) T)
  have C_law_sentence := fun (ds : List Int) (aw ad : Addr) => (c_law_sentence (P := P) (w := w) (base := base) T ds aw ad)
  have C_without_said := fun (ds : List Int) (aw ad : Addr) => (c_without_said (P := P) (w := w) (base := base) T)
  have C_law_is_without := fun (ds : List Int) (aw ad : Addr) => (c_law_is_without (P := P) (w := w) (base := base) T)
  have C_law_world := fun (ds : List Int) (aw ad : Addr) => (c_law_world (P := P) (w := w) (base := base) T ds aw ad)
  have C_law_true := fun (ds : List Int) (aw ad : Addr) => (c_law_true (P := P) (w := w) (base := base) T)
  have C_true_said := fun (ds : List Int) (aw ad : Addr) => (c_true_said (P := P) (w := w) (base := base) T)
  have C_law_alike := fun (ds : List Int) (aw ad : Addr) => (c_law_alike (P := P) (w := w) (base := base) T)
  have C_law_left := fun (ds : List Int) (aw ad : Addr) => (c_law_left (P := P) (w := w) (base := base) T)
  have C_world_said := fun (ds : List Int) (aw ad : Addr) => (c_world_said (P := P) (w := w) (base := base) T)
  exact law_reads (i := 1) (fd := FD) (F := FL) (O' := []) (Ol := []) (fun h => ps_set nd rfl (by first | exact .inl rfl | exact .inr rfl) (pe_disp (pps_cons pe_str h (pps_cons pe_str pe_int pps_nil)) (by rfl) (by rfl) (fun z => by cases z) (by decide))) (dn_callP (C_law_draws [] 0 0) (hr.mono (by decide)) rfl (da_cons (dv 0) (da_cons de_int da_nil))) (fun p => (dss_cons (ds_forH [2] PassesOwn.never rfl (di_range1 rfl (B.at "range") de_int) (dg_name 2 nd) (dss_cons (ds_setH 4 (O := []) nd (de_call (C_law_sentence p.1 p.2.1 p.2.2) (hr.mono (by decide)) rfl (da_consR 1 (da_cons de_int da_nil)))) (dss_cons (ds_setH 5 (O := []) nd (de_callP (C_without_said p.1 p.2.1 p.2.2) (hr.mono (by decide)) rfl (da_cons (dv 4) da_nil))) (dss_cons (ds_if (dt_not (dt_val (de_callP (C_law_is_without p.1 p.2.1 p.2.2) (hr.mono (by decide)) rfl (da_cons (dv 5) da_nil)))) (dss_one (ds_ret de_bl)) dss_nil) (dss_one (ds_forH [6] PassesOwn.never rfl (di_range1 rfl (B.at "range") de_int) (dg_name 6 nd) (dss_cons (ds_setH 7 (O := []) nd (de_call (C_law_world p.1 p.2.1 p.2.2) (hr.mono (by decide)) rfl (da_consR 1 da_nil))) (dss_cons (ds_setH 8 (O := []) nd (DN.de (dn_listRange rfl (B.at "list") rfl (B.at "range") (de_ix (dv 7) de_int)))) (dss_cons (ds_forH [9] PassesOwn.never rfl (di_seq (dv 8)) (dg_name 9 nd) (dss_cons (ds_setH 10 (O := []) nd (de_callP (C_law_true p.1 p.2.1 p.2.2) (hr.mono (by decide)) rfl (da_cons (dv 7) (da_cons (dv 8) (da_cons (dv 9) (da_cons (dv 4) da_nil)))))) (dss_one (ds_if (DW.dt (dw_or (dt_not (dt_val (de_callP (C_law_alike p.1 p.2.1 p.2.2) (hr.mono (by decide)) rfl (da_cons (de_callP (C_true_said p.1 p.2.1 p.2.2) (hr.mono (by decide)) rfl (da_cons (dv 7) (da_cons (dv 9) (da_cons (dv 4) da_nil)))) (da_cons (dv 10) da_nil))))) (dw_or1 (dt_ne hr (de_callP (C_law_true p.1 p.2.1 p.2.2) (hr.mono (by decide)) rfl (da_cons (dv 7) (da_cons (dv 8) (da_cons (dv 9) (da_cons (dv 5) da_nil))))) (dv 10))))) (dss_one (ds_ret de_bl)) dss_nil))) rfl (fun a b c => ps_for PassesOwn.never rfl a b c)) (dss_one (ds_if (dt_not (dt_val (de_callP (C_law_alike p.1 p.2.1 p.2.2) (hr.mono (by decide)) rfl (da_cons (de_callP (C_world_said p.1 p.2.1 p.2.2) (hr.mono (by decide)) rfl (da_cons (dv 7) (da_cons (dv 4) da_nil))) (da_cons (de_callP (C_law_left p.1 p.2.1 p.2.2) (hr.mono (by decide)) rfl (da_cons (dv 7) (da_cons (dv 4) da_nil))) da_nil))))) (dss_one (ds_ret de_bl)) dss_nil))))) rfl (fun a b c => ps_for PassesOwn.never rfl a b c)))))) rfl (fun a b c => ps_for PassesOwn.never rfl a b c)) (dss_cons (ds_setH 3 (O := []) nd (de_tup (da_cons de_str (da_cons (de_tup (da_cons de_str (da_cons (de_tup (da_cons de_str (da_cons de_str da_nil))) da_nil))) (da_cons (de_tup (da_cons de_str (da_cons (de_tup (da_cons de_str (da_cons de_str da_nil))) da_nil))) da_nil))))) (dss_one (ds_ret (de_callP (C_law_alike p.1 p.2.1 p.2.2) (hr.mono (by decide)) rfl (da_cons (de_callP (C_true_said p.1 p.2.1 p.2.2) (hr.mono (by decide)) rfl (da_cons (de_tup (da_cons de_int (da_cons (de_tup (da_cons (de_tup (da_cons de_int (da_cons de_int da_nil))) da_nil)) (da_cons (de_tup (da_cons (de_tup da_nil) (da_cons (de_tup (da_cons de_str da_nil)) da_nil))) da_nil)))) (da_cons de_int (da_cons (dv 3) da_nil)))) (da_cons de_bl da_nil)))))))) hS hl e1 e2 e3 (by decide) (fun H' => q H')
theorem all_mk {l : PySem.W.OpenLaw} {w : World} {K : PySem.W.Frag} {h : Heap} {mg : Str → Option Value} {fa : Addr} (X : K.In h) (G : h.Ns mainGlobals mg) (hfa : mg "law" = some (.ref fa))
    {f0 : Addr} {od0 an0 : Option Addr} {sl0 : Array (Option Value)} {oc0 kV0 dc0 pm0 cd0 ct0 : Value}
    {f1 : Addr} {od1 an1 : Option Addr} {sl1 : Array (Option Value)} {oc1 kV1 dc1 pm1 cd1 ct1 : Value}
    {f2 : Addr} {od2 an2 : Option Addr} {sl2 : Array (Option Value)} {oc2 kV2 dc2 pm2 cd2 ct2 : Value}
    {f3 : Addr} {od3 an3 : Option Addr} {sl3 : Array (Option Value)} {oc3 kV3 dc3 pm3 cd3 ct3 : Value}
    {f4 : Addr} {od4 an4 : Option Addr} {sl4 : Array (Option Value)} {oc4 kV4 dc4 pm4 cd4 ct4 : Value}
    {f5 : Addr} {od5 an5 : Option Addr} {sl5 : Array (Option Value)} {oc5 kV5 dc5 pm5 cd5 ct5 : Value}
    {f6 : Addr} {od6 an6 : Option Addr} {sl6 : Array (Option Value)} {oc6 kV6 dc6 pm6 cd6 ct6 : Value}
    {f7 : Addr} {od7 an7 : Option Addr} {sl7 : Array (Option Value)} {oc7 kV7 dc7 pm7 cd7 ct7 : Value}
    {f8 : Addr} {od8 an8 : Option Addr} {sl8 : Array (Option Value)} {oc8 kV8 dc8 pm8 cd8 ct8 : Value}
    {f9 : Addr} {od9 an9 : Option Addr} {sl9 : Array (Option Value)} {oc9 kV9 dc9 pm9 cd9 ct9 : Value}
    {f10 : Addr} {od10 an10 : Option Addr} {sl10 : Array (Option Value)} {oc10 kV10 dc10 pm10 cd10 ct10 : Value}
    {f11 : Addr} {od11 an11 : Option Addr} {sl11 : Array (Option Value)} {oc11 kV11 dc11 pm11 cd11 ct11 : Value}
    {f12 : Addr} {od12 an12 : Option Addr} {sl12 : Array (Option Value)} {oc12 kV12 dc12 pm12 cd12 ct12 : Value}
    {f13 : Addr} {od13 an13 : Option Addr} {sl13 : Array (Option Value)} {oc13 kV13 dc13 pm13 cd13 ct13 : Value}
    {f14 : Addr} {od14 an14 : Option Addr} {sl14 : Array (Option Value)} {oc14 kV14 dc14 pm14 cd14 ct14 : Value}
    {f15 : Addr} {od15 an15 : Option Addr} {sl15 : Array (Option Value)} {oc15 kV15 dc15 pm15 cd15 ct15 : Value}
    {f16 : Addr} {od16 an16 : Option Addr} {sl16 : Array (Option Value)} {oc16 kV16 dc16 pm16 cd16 ct16 : Value}
    (a0 : PySem.W.nsIn K mainGlobals "kids_of" = some (some (.ref f0))) (l0 : K.lookup f0 = some ⟨oc0, od0, .func (PySem.W.fnOf "kids_of" "kids_of" (defArgs s_kids_of) (defBody s_kids_of) (defScope s_kids_of) .none kV0 dc0 pm0 an0 cd0 ct0), sl0⟩) (c0 : PySem.W.codeIn K cd0 "kids_of" = true) (k0 : PySem.W.keepIn K (.ref f0) = true)
    (a1 : PySem.W.nsIn K mainGlobals "goals_of" = some (some (.ref f1))) (l1 : K.lookup f1 = some ⟨oc1, od1, .func (PySem.W.fnOf "goals_of" "goals_of" (defArgs s_goals_of) (defBody s_goals_of) (defScope s_goals_of) .none kV1 dc1 pm1 an1 cd1 ct1), sl1⟩) (c1 : PySem.W.codeIn K cd1 "goals_of" = true) (k1 : PySem.W.keepIn K (.ref f1) = true)
    (a2 : PySem.W.nsIn K mainGlobals "world_said" = some (some (.ref f2))) (l2 : K.lookup f2 = some ⟨oc2, od2, .func (PySem.W.fnOf "world_said" "world_said" (defArgs s_world_said) (defBody s_world_said) (defScope s_world_said) .none kV2 dc2 pm2 an2 cd2 ct2), sl2⟩) (c2 : PySem.W.codeIn K cd2 "world_said" = true) (k2 : PySem.W.keepIn K (.ref f2) = true)
    (a3 : PySem.W.nsIn K mainGlobals "true_said" = some (some (.ref f3))) (l3 : K.lookup f3 = some ⟨oc3, od3, .func (PySem.W.fnOf "true_said" "true_said" (defArgs s_true_said) (defBody s_true_said) (defScope s_true_said) .none kV3 dc3 pm3 an3 cd3 ct3), sl3⟩) (c3 : PySem.W.codeIn K cd3 "true_said" = true) (k3 : PySem.W.keepIn K (.ref f3) = true)
    (a4 : PySem.W.nsIn K mainGlobals "behind" = some (some (.ref f4))) (l4 : K.lookup f4 = some ⟨oc4, od4, .func (PySem.W.fnOf "behind" "behind" (defArgs s_behind) (defBody s_behind) (defScope s_behind) .none kV4 dc4 pm4 an4 cd4 ct4), sl4⟩) (c4 : PySem.W.codeIn K cd4 "behind" = true) (k4 : PySem.W.keepIn K (.ref f4) = true)
    (a5 : PySem.W.nsIn K mainGlobals "without_said" = some (some (.ref f5))) (l5 : K.lookup f5 = some ⟨oc5, od5, .func (PySem.W.fnOf "without_said" "without_said" (defArgs s_without_said) (defBody s_without_said) (defScope s_without_said) .none kV5 dc5 pm5 an5 cd5 ct5), sl5⟩) (c5 : PySem.W.codeIn K cd5 "without_said" = true) (k5 : PySem.W.keepIn K (.ref f5) = true)
    (a6 : PySem.W.nsIn K mainGlobals "_law_draws" = some (some (.ref f6))) (l6 : K.lookup f6 = some ⟨oc6, od6, .func (PySem.W.fnOf "_law_draws" "_law_draws" (defArgs s_law_draws) (defBody s_law_draws) (defScope s_law_draws) .none kV6 dc6 pm6 an6 cd6 ct6), sl6⟩) (c6 : PySem.W.codeIn K cd6 "_law_draws" = true) (k6 : PySem.W.keepIn K (.ref f6) = true)
    (a7 : PySem.W.nsIn K mainGlobals "_law_pick" = some (some (.ref f7))) (l7 : K.lookup f7 = some ⟨oc7, od7, .func (PySem.W.fnOf "_law_pick" "_law_pick" (defArgs s_law_pick) (defBody s_law_pick) (defScope s_law_pick) .none kV7 dc7 pm7 an7 cd7 ct7), sl7⟩) (c7 : PySem.W.codeIn K cd7 "_law_pick" = true) (k7 : PySem.W.keepIn K (.ref f7) = true)
    (a8 : PySem.W.nsIn K mainGlobals "_law_alike" = some (some (.ref f8))) (l8 : K.lookup f8 = some ⟨oc8, od8, .func (PySem.W.fnOf "_law_alike" "_law_alike" (defArgs s_law_alike) (defBody s_law_alike) (defScope s_law_alike) .none kV8 dc8 pm8 an8 cd8 ct8), sl8⟩) (c8 : PySem.W.codeIn K cd8 "_law_alike" = true) (k8 : PySem.W.keepIn K (.ref f8) = true)
    (a9 : PySem.W.nsIn K mainGlobals "_law_set" = some (some (.ref f9))) (l9 : K.lookup f9 = some ⟨oc9, od9, .func (PySem.W.fnOf "_law_set" "_law_set" (defArgs s_law_set) (defBody s_law_set) (defScope s_law_set) .none kV9 dc9 pm9 an9 cd9 ct9), sl9⟩) (c9 : PySem.W.codeIn K cd9 "_law_set" = true) (k9 : PySem.W.keepIn K (.ref f9) = true)
    (a10 : PySem.W.nsIn K mainGlobals "_law_sentence" = some (some (.ref f10))) (l10 : K.lookup f10 = some ⟨oc10, od10, .func (PySem.W.fnOf "_law_sentence" "_law_sentence" (defArgs s_law_sentence) (defBody s_law_sentence) (defScope s_law_sentence) .none kV10 dc10 pm10 an10 cd10 ct10), sl10⟩) (c10 : PySem.W.codeIn K cd10 "_law_sentence" = true) (k10 : PySem.W.keepIn K (.ref f10) = true)
    (a11 : PySem.W.nsIn K mainGlobals "_law_world" = some (some (.ref f11))) (l11 : K.lookup f11 = some ⟨oc11, od11, .func (PySem.W.fnOf "_law_world" "_law_world" (defArgs s_law_world) (defBody s_law_world) (defScope s_law_world) .none kV11 dc11 pm11 an11 cd11 ct11), sl11⟩) (c11 : PySem.W.codeIn K cd11 "_law_world" = true) (k11 : PySem.W.keepIn K (.ref f11) = true)
    (a12 : PySem.W.nsIn K mainGlobals "_law_true" = some (some (.ref f12))) (l12 : K.lookup f12 = some ⟨oc12, od12, .func (PySem.W.fnOf "_law_true" "_law_true" (defArgs s_law_true) (defBody s_law_true) (defScope s_law_true) .none kV12 dc12 pm12 an12 cd12 ct12), sl12⟩) (c12 : PySem.W.codeIn K cd12 "_law_true" = true) (k12 : PySem.W.keepIn K (.ref f12) = true)
    (a13 : PySem.W.nsIn K mainGlobals "_law_left" = some (some (.ref f13))) (l13 : K.lookup f13 = some ⟨oc13, od13, .func (PySem.W.fnOf "_law_left" "_law_left" (defArgs s_law_left) (defBody s_law_left) (defScope s_law_left) .none kV13 dc13 pm13 an13 cd13 ct13), sl13⟩) (c13 : PySem.W.codeIn K cd13 "_law_left" = true) (k13 : PySem.W.keepIn K (.ref f13) = true)
    (a14 : PySem.W.nsIn K mainGlobals "_law_is_without" = some (some (.ref f14))) (l14 : K.lookup f14 = some ⟨oc14, od14, .func (PySem.W.fnOf "_law_is_without" "_law_is_without" (defArgs s_law_is_without) (defBody s_law_is_without) (defScope s_law_is_without) .none kV14 dc14 pm14 an14 cd14 ct14), sl14⟩) (c14 : PySem.W.codeIn K cd14 "_law_is_without" = true) (k14 : PySem.W.keepIn K (.ref f14) = true)
    (a15 : PySem.W.nsIn K mainGlobals "_law_next" = some (some (.ref f15))) (l15 : K.lookup f15 = some ⟨oc15, od15, .func (PySem.W.fnOf "_law_next" "_law_next" (defArgs s_law_next) (defBody s_law_next) (defScope s_law_next) .none kV15 dc15 pm15 an15 cd15 ct15), sl15⟩) (c15 : PySem.W.codeIn K cd15 "_law_next" = true) (k15 : PySem.W.keepIn K (.ref f15) = true)
    (a16 : PySem.W.nsIn K mainGlobals "law" = some (some (.ref f16))) (l16 : K.lookup f16 = some ⟨oc16, od16, .func (PySem.W.fnOf "law" "law" (defArgs s_law) (defBody s_law) (defScope s_law) .none kV16 dc16 pm16 an16 cd16 ct16), sl16⟩) (c16 : PySem.W.codeIn K cd16 "law" = true) (k16 : PySem.W.keepIn K (.ref f16) = true)
    (z0 : PySem.W.nsIn K mainGlobals "abs" = some none) (z1 : PySem.W.nsIn K mainGlobals "all" = some none) (z2 : PySem.W.nsIn K mainGlobals "any" = some none) (z3 : PySem.W.nsIn K mainGlobals "bool" = some none) (z4 : PySem.W.nsIn K mainGlobals "int" = some none) (z5 : PySem.W.nsIn K mainGlobals "isinstance" = some none) (z6 : PySem.W.nsIn K mainGlobals "len" = some none) (z7 : PySem.W.nsIn K mainGlobals "list" = some none) (z8 : PySem.W.nsIn K mainGlobals "range" = some none) (z9 : PySem.W.nsIn K mainGlobals "sorted" = some none) (z10 : PySem.W.nsIn K mainGlobals "str" = some none) (z11 : PySem.W.nsIn K mainGlobals "tuple" = some none) (M : Main) :
    ∃ fd : FuncData, (∀ (s : Shared) (v : Value), BindsTo s fd ⟨[v], []⟩ [("script", v)]) ∧ ∀ base : Heap, K.In base → base.Ns mainGlobals mg → FnOk l.prog w K mg base CX0 79 fa fd ["script"] (spLaw K) := by
  have e := hfa.symm.trans (PySem.W.mg_of X G a16)
  cases e
  have U0 := fun_mk (st := s_kids_of) l0 c0 k0
  have U1 := fun_mk (st := s_goals_of) l1 c1 k1
  have U2 := fun_mk (st := s_world_said) l2 c2 k2
  have U3 := fun_mk (st := s_true_said) l3 c3 k3
  have U4 := fun_mk (st := s_behind) l4 c4 k4
  have U5 := fun_mk (st := s_without_said) l5 c5 k5
  have U6 := fun_mk (st := s_law_draws) l6 c6 k6
  have U7 := fun_mk (st := s_law_pick) l7 c7 k7
  have U8 := fun_mk (st := s_law_alike) l8 c8 k8
  have U9 := fun_mk (st := s_law_set) l9 c9 k9
  have U10 := fun_mk (st := s_law_sentence) l10 c10 k10
  have U11 := fun_mk (st := s_law_world) l11 c11 k11
  have U12 := fun_mk (st := s_law_true) l12 c12 k12
  have U13 := fun_mk (st := s_law_left) l13 c13 k13
  have U14 := fun_mk (st := s_law_is_without) l14 c14 k14
  have U15 := fun_mk (st := s_law_next) l15 c15 k15
  have U16 := fun_mk (st := s_law) l16 c16 k16
  have T : Tx K mg := by
    refine ⟨⟨⟨_, _, U0, PySem.W.mg_of X G a0, U0.binds (ps := ["sentence"]) fun _ _ _ _ _ _ us hl => match us, hl with | [_], _ => rfl⟩⟩,
      ⟨⟨_, _, U1, PySem.W.mg_of X G a1, U1.binds (ps := ["world", "point"]) fun _ _ _ _ _ _ us hl => match us, hl with | [_, _], _ => rfl⟩⟩,
      ⟨⟨_, _, U2, PySem.W.mg_of X G a2, U2.binds (ps := ["world", "sentence"]) fun _ _ _ _ _ _ us hl => match us, hl with | [_, _], _ => rfl⟩⟩,
      ⟨⟨_, _, U3, PySem.W.mg_of X G a3, U3.binds (ps := ["world", "point", "sentence"]) fun _ _ _ _ _ _ us hl => match us, hl with | [_, _, _], _ => rfl⟩⟩,
      ⟨⟨_, _, U4, PySem.W.mg_of X G a4, U4.binds (ps := ["first", "sentence"]) fun _ _ _ _ _ _ us hl => match us, hl with | [_, _], _ => rfl⟩⟩,
      ⟨⟨_, _, U5, PySem.W.mg_of X G a5, U5.binds (ps := ["sentence"]) fun _ _ _ _ _ _ us hl => match us, hl with | [_], _ => rfl⟩⟩,
      ⟨⟨_, _, U6, PySem.W.mg_of X G a6, U6.binds (ps := ["script", "many"]) fun _ _ _ _ _ _ us hl => match us, hl with | [_, _], _ => rfl⟩⟩,
      ⟨⟨_, _, U7, PySem.W.mg_of X G a7, U7.binds (ps := ["w", "rows"]) fun _ _ _ _ _ _ us hl => match us, hl with | [_, _], _ => rfl⟩⟩,
      ⟨⟨_, _, U8, PySem.W.mg_of X G a8, U8.binds (ps := ["told", "due"]) fun _ _ _ _ _ _ us hl => match us, hl with | [_, _], _ => rfl⟩⟩,
      ⟨⟨_, _, U9, PySem.W.mg_of X G a9, U9.binds (ps := ["things"]) fun _ _ _ _ _ _ us hl => match us, hl with | [_], _ => rfl⟩⟩,
      ⟨⟨_, _, U10, PySem.W.mg_of X G a10, U10.binds (ps := ["w", "depth"]) fun _ _ _ _ _ _ us hl => match us, hl with | [_, _], _ => rfl⟩⟩,
      ⟨⟨_, _, U11, PySem.W.mg_of X G a11, U11.binds (ps := ["w"]) fun _ _ _ _ _ _ us hl => match us, hl with | [_], _ => rfl⟩⟩,
      ⟨⟨_, _, U12, PySem.W.mg_of X G a12, U12.binds (ps := ["world", "here", "point", "sentence"]) fun _ _ _ _ _ _ us hl => match us, hl with | [_, _, _, _], _ => rfl⟩⟩,
      ⟨⟨_, _, U13, PySem.W.mg_of X G a13, U13.binds (ps := ["world", "sentence"]) fun _ _ _ _ _ _ us hl => match us, hl with | [_, _], _ => rfl⟩⟩,
      ⟨⟨_, _, U14, PySem.W.mg_of X G a14, U14.binds (ps := ["thing"]) fun _ _ _ _ _ _ us hl => match us, hl with | [_], _ => rfl⟩⟩,
      ⟨⟨_, _, U15, PySem.W.mg_of X G a15, U15.binds (ps := ["w", "many"]) fun _ _ _ _ _ _ us hl => match us, hl with | [_, _], _ => rfl⟩⟩, fun x hx => ?_⟩
    simp only [List.mem_cons, List.not_mem_nil, or_false] at hx
    rcases hx with rfl | rfl | rfl | rfl | rfl | rfl | rfl | rfl | rfl | rfl | rfl | rfl
    · exact PySem.W.mg_none_of X G z0
    · exact PySem.W.mg_none_of X G z1
    · exact PySem.W.mg_none_of X G z2
    · exact PySem.W.mg_none_of X G z3
    · exact PySem.W.mg_none_of X G z4
    · exact PySem.W.mg_none_of X G z5
    · exact PySem.W.mg_none_of X G z6
    · exact PySem.W.mg_none_of X G z7
    · exact PySem.W.mg_none_of X G z8
    · exact PySem.W.mg_none_of X G z9
    · exact PySem.W.mg_none_of X G z10
    · exact PySem.W.mg_none_of X G z11
  exact ⟨PySem.W.fnOf "law" "law" (defArgs s_law) (defBody s_law) (defScope s_law) .none kV16 dc16 pm16 an16 cd16 ct16, fun s v => .of_eq rfl, fun base _ _ => law_ok T U16 M⟩
end
end K75

set_option Elab.async false
set_option linter.all false
set_option maxRecDepth 100000
set_option maxHeartbeats 4000000
namespace K75
open PySem PySem.Spec L2 DL
theorem sq_name_name : ((Str.ofString "name") == (Str.ofString "name")) = true := by decide +kernel
theorem sq_name_false : ((Str.ofString "name") == (Str.ofString "false")) = false := by decide +kernel
theorem sq_name_said : ((Str.ofString "name") == (Str.ofString "said")) = false := by decide +kernel
theorem sq_name_box : ((Str.ofString "name") == (Str.ofString "box")) = false := by decide +kernel
theorem sq_name_may : ((Str.ofString "name") == (Str.ofString "may")) = false := by decide +kernel
theorem sq_name_not : ((Str.ofString "name") == (Str.ofString "not")) = false := by decide +kernel
theorem sq_name_and : ((Str.ofString "name") == (Str.ofString "and")) = false := by decide +kernel
theorem sq_name_or : ((Str.ofString "name") == (Str.ofString "or")) = false := by decide +kernel
theorem sq_name_then : ((Str.ofString "name") == (Str.ofString "then")) = false := by decide +kernel
theorem sq_false_name : ((Str.ofString "false") == (Str.ofString "name")) = false := by decide +kernel
theorem sq_false_false : ((Str.ofString "false") == (Str.ofString "false")) = true := by decide +kernel
theorem sq_false_said : ((Str.ofString "false") == (Str.ofString "said")) = false := by decide +kernel
theorem sq_false_box : ((Str.ofString "false") == (Str.ofString "box")) = false := by decide +kernel
theorem sq_false_may : ((Str.ofString "false") == (Str.ofString "may")) = false := by decide +kernel
theorem sq_false_not : ((Str.ofString "false") == (Str.ofString "not")) = false := by decide +kernel
theorem sq_false_and : ((Str.ofString "false") == (Str.ofString "and")) = false := by decide +kernel
theorem sq_false_or : ((Str.ofString "false") == (Str.ofString "or")) = false := by decide +kernel
theorem sq_false_then : ((Str.ofString "false") == (Str.ofString "then")) = false := by decide +kernel
theorem sq_said_name : ((Str.ofString "said") == (Str.ofString "name")) = false := by decide +kernel
theorem sq_said_false : ((Str.ofString "said") == (Str.ofString "false")) = false := by decide +kernel
theorem sq_said_said : ((Str.ofString "said") == (Str.ofString "said")) = true := by decide +kernel
theorem sq_said_box : ((Str.ofString "said") == (Str.ofString "box")) = false := by decide +kernel
theorem sq_said_may : ((Str.ofString "said") == (Str.ofString "may")) = false := by decide +kernel
theorem sq_said_not : ((Str.ofString "said") == (Str.ofString "not")) = false := by decide +kernel
theorem sq_said_and : ((Str.ofString "said") == (Str.ofString "and")) = false := by decide +kernel
theorem sq_said_or : ((Str.ofString "said") == (Str.ofString "or")) = false := by decide +kernel
theorem sq_said_then : ((Str.ofString "said") == (Str.ofString "then")) = false := by decide +kernel
theorem sq_box_name : ((Str.ofString "box") == (Str.ofString "name")) = false := by decide +kernel
theorem sq_box_false : ((Str.ofString "box") == (Str.ofString "false")) = false := by decide +kernel
theorem sq_box_said : ((Str.ofString "box") == (Str.ofString "said")) = false := by decide +kernel
theorem sq_box_box : ((Str.ofString "box") == (Str.ofString "box")) = true := by decide +kernel
theorem sq_box_may : ((Str.ofString "box") == (Str.ofString "may")) = false := by decide +kernel
theorem sq_box_not : ((Str.ofString "box") == (Str.ofString "not")) = false := by decide +kernel
theorem sq_box_and : ((Str.ofString "box") == (Str.ofString "and")) = false := by decide +kernel
theorem sq_box_or : ((Str.ofString "box") == (Str.ofString "or")) = false := by decide +kernel
theorem sq_box_then : ((Str.ofString "box") == (Str.ofString "then")) = false := by decide +kernel
theorem sq_may_name : ((Str.ofString "may") == (Str.ofString "name")) = false := by decide +kernel
theorem sq_may_false : ((Str.ofString "may") == (Str.ofString "false")) = false := by decide +kernel
theorem sq_may_said : ((Str.ofString "may") == (Str.ofString "said")) = false := by decide +kernel
theorem sq_may_box : ((Str.ofString "may") == (Str.ofString "box")) = false := by decide +kernel
theorem sq_may_may : ((Str.ofString "may") == (Str.ofString "may")) = true := by decide +kernel
theorem sq_may_not : ((Str.ofString "may") == (Str.ofString "not")) = false := by decide +kernel
theorem sq_may_and : ((Str.ofString "may") == (Str.ofString "and")) = false := by decide +kernel
theorem sq_may_or : ((Str.ofString "may") == (Str.ofString "or")) = false := by decide +kernel
theorem sq_may_then : ((Str.ofString "may") == (Str.ofString "then")) = false := by decide +kernel
theorem sq_not_name : ((Str.ofString "not") == (Str.ofString "name")) = false := by decide +kernel
theorem sq_not_false : ((Str.ofString "not") == (Str.ofString "false")) = false := by decide +kernel
theorem sq_not_said : ((Str.ofString "not") == (Str.ofString "said")) = false := by decide +kernel
theorem sq_not_box : ((Str.ofString "not") == (Str.ofString "box")) = false := by decide +kernel
theorem sq_not_may : ((Str.ofString "not") == (Str.ofString "may")) = false := by decide +kernel
theorem sq_not_not : ((Str.ofString "not") == (Str.ofString "not")) = true := by decide +kernel
theorem sq_not_and : ((Str.ofString "not") == (Str.ofString "and")) = false := by decide +kernel
theorem sq_not_or : ((Str.ofString "not") == (Str.ofString "or")) = false := by decide +kernel
theorem sq_not_then : ((Str.ofString "not") == (Str.ofString "then")) = false := by decide +kernel
theorem sq_and_name : ((Str.ofString "and") == (Str.ofString "name")) = false := by decide +kernel
theorem sq_and_false : ((Str.ofString "and") == (Str.ofString "false")) = false := by decide +kernel
theorem sq_and_said : ((Str.ofString "and") == (Str.ofString "said")) = false := by decide +kernel
theorem sq_and_box : ((Str.ofString "and") == (Str.ofString "box")) = false := by decide +kernel
theorem sq_and_may : ((Str.ofString "and") == (Str.ofString "may")) = false := by decide +kernel
theorem sq_and_not : ((Str.ofString "and") == (Str.ofString "not")) = false := by decide +kernel
theorem sq_and_and : ((Str.ofString "and") == (Str.ofString "and")) = true := by decide +kernel
theorem sq_and_or : ((Str.ofString "and") == (Str.ofString "or")) = false := by decide +kernel
theorem sq_and_then : ((Str.ofString "and") == (Str.ofString "then")) = false := by decide +kernel
theorem sq_or_name : ((Str.ofString "or") == (Str.ofString "name")) = false := by decide +kernel
theorem sq_or_false : ((Str.ofString "or") == (Str.ofString "false")) = false := by decide +kernel
theorem sq_or_said : ((Str.ofString "or") == (Str.ofString "said")) = false := by decide +kernel
theorem sq_or_box : ((Str.ofString "or") == (Str.ofString "box")) = false := by decide +kernel
theorem sq_or_may : ((Str.ofString "or") == (Str.ofString "may")) = false := by decide +kernel
theorem sq_or_not : ((Str.ofString "or") == (Str.ofString "not")) = false := by decide +kernel
theorem sq_or_and : ((Str.ofString "or") == (Str.ofString "and")) = false := by decide +kernel
theorem sq_or_or : ((Str.ofString "or") == (Str.ofString "or")) = true := by decide +kernel
theorem sq_or_then : ((Str.ofString "or") == (Str.ofString "then")) = false := by decide +kernel
theorem sq_then_name : ((Str.ofString "then") == (Str.ofString "name")) = false := by decide +kernel
theorem sq_then_false : ((Str.ofString "then") == (Str.ofString "false")) = false := by decide +kernel
theorem sq_then_said : ((Str.ofString "then") == (Str.ofString "said")) = false := by decide +kernel
theorem sq_then_box : ((Str.ofString "then") == (Str.ofString "box")) = false := by decide +kernel
theorem sq_then_may : ((Str.ofString "then") == (Str.ofString "may")) = false := by decide +kernel
theorem sq_then_not : ((Str.ofString "then") == (Str.ofString "not")) = false := by decide +kernel
theorem sq_then_and : ((Str.ofString "then") == (Str.ofString "and")) = false := by decide +kernel
theorem sq_then_or : ((Str.ofString "then") == (Str.ofString "or")) = false := by decide +kernel
theorem sq_then_then : ((Str.ofString "then") == (Str.ofString "then")) = true := by decide +kernel
local macro_rules | `(tactic| walk_at "ev0") => `(tactic| simp only [enter, List.length_cons, List.length_nil, List.replicate, List.cons_append, List.nil_append, sSeq, Nat.zero_add, Nat.reduceAdd, Nat.reduceSub])
local macro_rules | `(tactic| walk_at "ev") => `(tactic| try simp only [semP, semPN, semG, semGN, enter, outR, List.length_cons, List.length_nil, List.replicate, List.cons_append, List.nil_append, sSeq, sIf, sRet, sRetN, sRetO, sSkip, sSetH, sSet, sSetN, sAsgH, sAsg, sApp, sAppH, sDo, hide_nil, hide, hideAux, bName, bTup, bCons, bNil, fVar, fC, f1, f2, fIf, fB, fAnd, fOr, fNot, fAndV, fOrV, fNotV, fN, fTup, fLst, fNil, fCons, fConsR, fSl, fSlL, fPart, fB1, fB1N, fCall, fCallP, fCallPN, fCallN, fItems, fComp, wipeE, fYes, fRange1, dItems, mb_some, mb_none, mp_some, mp_none, agD, Option.map_some, Option.map_none, Option.bind_some, d1, d2, l1, dLen1, dInt1, dAbs1, dTuple1, dIx_t, dIx_l, dEq_int, dEq_np, imm_np, immL_nps, immL_bools, immL_strs, dEq_str, dNe_int, dNe_str, dEq_bool, dNe_bool, dGe_int, dGt_int, dLt_int, dLe_int, dAdd_int, dSub_int, dAddI_int, imm, immL, dIn_str2, dIn_str3, sq_name_name, sq_name_false, sq_name_said, sq_name_box, sq_name_may, sq_name_not, sq_name_and, sq_name_or, sq_name_then, sq_false_name, sq_false_false, sq_false_said, sq_false_box, sq_false_may, sq_false_not, sq_false_and, sq_false_or, sq_false_then, sq_said_name, sq_said_false, sq_said_said, sq_said_box, sq_said_may, sq_said_not, sq_said_and, sq_said_or, sq_said_then, sq_box_name, sq_box_false, sq_box_said, sq_box_box, sq_box_may, sq_box_not, sq_box_and, sq_box_or, sq_box_then, sq_may_name, sq_may_false, sq_may_said, sq_may_box, sq_may_may, sq_may_not, sq_may_and, sq_may_or, sq_may_then, sq_not_name, sq_not_false, sq_not_said, sq_not_box, sq_not_may, sq_not_not, sq_not_and, sq_not_or, sq_not_then, sq_and_name, sq_and_false, sq_and_said, sq_and_box, sq_and_may, sq_and_not, sq_and_and, sq_and_or, sq_and_then, sq_or_name, sq_or_false, sq_or_said, sq_or_box, sq_or_may, sq_or_not, sq_or_and, sq_or_or, sq_or_then, sq_then_name, sq_then_false, sq_then_said, sq_then_box, sq_then_may, sq_then_not, sq_then_and, sq_then_or, sq_then_then, atI_0, atI_1, atI_2, atI_3, List.getElem?_cons_zero, List.getElem?_cons_succ, List.set_cons_zero, List.set_cons_succ, if_true, if_false, Bool.false_eq_true, reduceIte, decide_true, decide_false, true_and, and_true, and_self, not_true_eq_false, not_false_eq_true, Nat.zero_add, Nat.reduceAdd, Nat.reduceSub, Nat.reduceEqDiff, List.contains_cons, List.contains_nil, Nat.reduceBEq, Bool.or_false, Bool.false_or, Bool.true_or, Bool.or_true, Bool.and_true, Bool.true_and, Bool.not_true, Bool.not_false, fM, dTuple1, sl0, sl1, sl2, sl3, sl4, sl5, sl6, sl7, sl8, sl9, sl10, sl11, sl12, Nat.reduceLeDiff])
local macro_rules | `(tactic| walk_at "evh") => `(tactic| try simp only [semP, semPN, semG, semGN, enter, outR, List.length_cons, List.length_nil, List.replicate, List.cons_append, List.nil_append, sSeq, sIf, sRet, sRetN, sRetO, sSkip, sSetH, sSet, sSetN, sAsgH, sAsg, sApp, sAppH, sDo, hide_nil, hide, hideAux, bName, bTup, bCons, bNil, fVar, fC, f1, f2, fIf, fB, fAnd, fOr, fNot, fAndV, fOrV, fNotV, fN, fTup, fLst, fNil, fCons, fConsR, fSl, fSlL, fPart, fB1, fB1N, fCall, fCallP, fCallPN, fCallN, fItems, fComp, wipeE, fYes, fRange1, dItems, mb_some, mb_none, mp_some, mp_none, agD, Option.map_some, Option.map_none, Option.bind_some, d1, d2, l1, dLen1, dInt1, dAbs1, dTuple1, dIx_t, dIx_l, dEq_int, dEq_np, imm_np, immL_nps, immL_bools, immL_strs, dEq_str, dNe_int, dNe_str, dEq_bool, dNe_bool, dGe_int, dGt_int, dLt_int, dLe_int, dAdd_int, dSub_int, dAddI_int, imm, immL, dIn_str2, dIn_str3, sq_name_name, sq_name_false, sq_name_said, sq_name_box, sq_name_may, sq_name_not, sq_name_and, sq_name_or, sq_name_then, sq_false_name, sq_false_false, sq_false_said, sq_false_box, sq_false_may, sq_false_not, sq_false_and, sq_false_or, sq_false_then, sq_said_name, sq_said_false, sq_said_said, sq_said_box, sq_said_may, sq_said_not, sq_said_and, sq_said_or, sq_said_then, sq_box_name, sq_box_false, sq_box_said, sq_box_box, sq_box_may, sq_box_not, sq_box_and, sq_box_or, sq_box_then, sq_may_name, sq_may_false, sq_may_said, sq_may_box, sq_may_may, sq_may_not, sq_may_and, sq_may_or, sq_may_then, sq_not_name, sq_not_false, sq_not_said, sq_not_box, sq_not_may, sq_not_not, sq_not_and, sq_not_or, sq_not_then, sq_and_name, sq_and_false, sq_and_said, sq_and_box, sq_and_may, sq_and_not, sq_and_and, sq_and_or, sq_and_then, sq_or_name, sq_or_false, sq_or_said, sq_or_box, sq_or_may, sq_or_not, sq_or_and, sq_or_or, sq_or_then, sq_then_name, sq_then_false, sq_then_said, sq_then_box, sq_then_may, sq_then_not, sq_then_and, sq_then_or, sq_then_then, atI_0, atI_1, atI_2, atI_3, List.getElem?_cons_zero, List.getElem?_cons_succ, List.set_cons_zero, List.set_cons_succ, if_true, if_false, Bool.false_eq_true, reduceIte, decide_true, decide_false, true_and, and_true, and_self, not_true_eq_false, not_false_eq_true, Nat.zero_add, Nat.reduceAdd, Nat.reduceSub, Nat.reduceEqDiff, List.contains_cons, List.contains_nil, Nat.reduceBEq, Bool.or_false, Bool.false_or, Bool.true_or, Bool.or_true, Bool.and_true, Bool.true_and, Bool.not_true, Bool.not_false, fM, dTuple1, sl0, sl1, sl2, sl3, sl4, sl5, sl6, sl7, sl8, sl9, sl10, sl11, sl12, Nat.reduceLeDiff, *])

inductive Sn where
  | nm (x : Str) | fl | nt (a : Sn) | bx (a : Sn) | my (a : Sn) | an (a b : Sn) | or (a b : Sn) | th (a b : Sn) | sd (a b : Sn)
def enc : Sn → PyData
  | .nm x => .tuple [.str "name", .str x]
  | .fl => .tuple [.str "false"]
  | .nt a => .tuple [.str "not", enc a]
  | .bx a => .tuple [.str "box", enc a]
  | .my a => .tuple [.str "may", enc a]
  | .an a b => .tuple [.str "and", enc a, enc b]
  | .or a b => .tuple [.str "or", enc a, enc b]
  | .th a b => .tuple [.str "then", enc a, enc b]
  | .sd a b => .tuple [.str "said", enc a, enc b]
def ht : Sn → Nat
  | .nm _ => 0 | .fl => 0
  | .nt a => ht a + 1 | .bx a => ht a + 1 | .my a => ht a + 1
  | .an a b => max (ht a) (ht b) + 1 | .or a b => max (ht a) (ht b) + 1 | .th a b => max (ht a) (ht b) + 1 | .sd a b => max (ht a) (ht b) + 1
structure W where
  n : Nat
  ar : List (Nat × Nat)
  tr : List (List Str)
def pr (p : Nat × Nat) : PyData := .tuple [np p.1, np p.2]
def tD (t : List Str) : PyData := .tuple (t.map .str)
def encW (w : W) : PyData := .tuple [np w.n, .tuple (w.ar.map pr), .tuple (w.tr.map tD)]
def has (t : List Str) (x : Str) : Bool := t.any fun e => e == x
def L (w : W) : Sn → List Nat → Nat → Bool
  | .nm x, _, p => has (w.tr.getD p []) x
  | .fl, _, _ => false
  | .nt a, h, p => !L w a h p
  | .bx a, h, p => ((w.ar.filter fun q => decide (q.1 = p) && decide (q.2 ∈ h)).map fun q => L w a h q.2).all id
  | .my a, h, p => ((w.ar.filter fun q => decide (q.1 = p) && decide (q.2 ∈ h)).map fun q => L w a h q.2).any id
  | .an a b, h, p => L w a h p && L w b h p
  | .or a b, h, p => L w a h p || L w b h p
  | .th a b, h, p => !L w a h p || L w b h p
  | .sd a b, h, p => !L w a h p || L w b (h.filter fun q => L w a h q) p
def sub (w : W) (ps : List Nat) : W := ⟨ps.length, (w.ar.filter fun q => decide (q.1 ∈ ps) && decide (q.2 ∈ ps)).map fun q => (idx ps q.1, idx ps q.2), ps.map fun p => w.tr.getD p []⟩
def T : Sn → W → Nat → Bool
  | .nm x, w, p => has (w.tr.getD p []) x
  | .fl, _, _ => false
  | .nt a, w, p => !T a w p
  | .bx a, w, p => (((w.ar.filter fun q => decide (q.1 = p)).map (·.2)).map fun q => T a w q).all id
  | .my a, w, p => (((w.ar.filter fun q => decide (q.1 = p)).map (·.2)).map fun q => T a w q).any id
  | .an a b, w, p => T a w p && T b w p
  | .or a b, w, p => T a w p || T b w p
  | .th a b, w, p => !T a w p || T b w p
  | .sd a b, w, p => !T a w p || T b (sub w ((List.range w.n).filter fun q => T a w q)) (idx ((List.range w.n).filter fun q => T a w q) p)
def ltP (p q : Nat × Nat) : Prop := p.1 < q.1 ∨ p.1 = q.1 ∧ p.2 < q.2
structure WF (w : W) : Prop where
  tr : w.tr.length = w.n
  ar : ∀ q ∈ w.ar, q.1 < w.n ∧ q.2 < w.n
  so : w.ar.Pairwise ltP
  sz : w.n ≤ 1000 ∧ w.ar.length ≤ 1000
theorem goals_ok (w : W) (p : Nat) : S_goals_of [.d (encW w), .d (np p)] = some (((w.ar.filter fun q => decide (q.1 = p)).map (·.2)).map np) := by
  unfold S_goals_of F_goals_of encW
  walk_at "ev"
  rw [compF_map pr (fun q => decide (q.1 = p)) (fun q => np q.2) w.ar]
  · walk_at "ev"
    rw [List.map_map, if_pos (immL_map (fun (q : Nat × Nat) => imm_np q.2) _)]
    rfl
  · intro q hq
    refine ⟨_, rfl, ?_, fun _ => ?_⟩
    · walk_at "ev"
    · walk_at "ev"
theorem lookT (w : W) {p : Nat} (h : WF w) (hp : p < w.n) : dIx (.tuple (w.tr.map tD)) (np p) = some (tD (w.tr.getD p [])) := by
  have : w.tr[p]? = some (w.tr.getD p []) := by
    rw [List.getD_eq_getElem?_getD, List.getElem?_eq_getElem (by rw [h.tr]; exact hp)]; rfl
  exact atI_map tD this
theorem hasT (x : Str) (t : List Str) : dIn (.str x) (tD t) = some (.bool (has t x)) := dIn_strT x t
theorem true_nm {f1 f2 f3} {w : W} {p : Nat} (h : WF w) (hp : p < w.n) (x : Str) : semP 3 10 (F_true_said f1 f2 f3) [.d (encW w), .d (np p), .d (enc (.nm x))] = some (.bool (has (w.tr.getD p []) x)) := by
  unfold F_true_said encW
  have e := lookT w h hp
  have e2 := hasT x (w.tr.getD p [])
  simp only [enc]
  walk_at "evh"
theorem true_fl {f1 f2 f3} {w : W} {p : Nat} : semP 3 10 (F_true_said f1 f2 f3) [.d (encW w), .d (np p), .d (enc .fl)] = some (.bool false) := by
  unfold F_true_said encW
  simp only [enc]
  walk_at "evh"
theorem true_nt {f1 f2 f3} {w : W} {p : Nat} {a : Sn} {b : Bool} (h : f1 [.d (encW w), .d (np p), .d (enc a)] = some (.bool b)) : semP 3 10 (F_true_said f1 f2 f3) [.d (encW w), .d (np p), .d (enc (.nt a))] = some (.bool (!b)) := by
  unfold F_true_said
  simp only [enc]
  walk_at "evh"
theorem true_an {f1 f2 f3} {w : W} {p : Nat} {a a' : Sn} {b b' : Bool} (h : f1 [.d (encW w), .d (np p), .d (enc a)] = some (.bool b)) (h' : f1 [.d (encW w), .d (np p), .d (enc a')] = some (.bool b')) : semP 3 10 (F_true_said f1 f2 f3) [.d (encW w), .d (np p), .d (enc (.an a a'))] = some (.bool (b && b')) := by
  unfold F_true_said
  simp only [enc]
  walk_at "evh"
  cases b <;> cases b' <;> (walk_at "evh") <;> rfl
theorem true_or {f1 f2 f3} {w : W} {p : Nat} {a a' : Sn} {b b' : Bool} (h : f1 [.d (encW w), .d (np p), .d (enc a)] = some (.bool b)) (h' : f1 [.d (encW w), .d (np p), .d (enc a')] = some (.bool b')) : semP 3 10 (F_true_said f1 f2 f3) [.d (encW w), .d (np p), .d (enc (.or a a'))] = some (.bool (b || b')) := by
  unfold F_true_said
  simp only [enc]
  walk_at "evh"
  cases b <;> cases b' <;> (walk_at "evh") <;> rfl
theorem true_th {f1 f2 f3} {w : W} {p : Nat} {a a' : Sn} {b b' : Bool} (h : f1 [.d (encW w), .d (np p), .d (enc a)] = some (.bool b)) (h' : f1 [.d (encW w), .d (np p), .d (enc a')] = some (.bool b')) : semP 3 10 (F_true_said f1 f2 f3) [.d (encW w), .d (np p), .d (enc (.th a a'))] = some (.bool (!b || b')) := by
  unfold F_true_said
  simp only [enc]
  walk_at "evh"
  cases b <;> cases b' <;> (walk_at "evh") <;> rfl
theorem comp_bools {G : Gh} {bd : PyData → En → Option En} {fe : Fe G} {ρ : En} {g : G.T} {gs : List Nat} {t : Nat → Bool} (h : ∀ q ∈ gs, ∃ ρ1, bd (np q) ρ = some ρ1 ∧ fe ρ1 g = some (.bool (t q), g)) :
    compF bd (fYes (G := G)) fe ρ (gs.map np) g = some ((gs.map t).map .bool, g) := by
  rw [compF_map np (fun _ => true) (fun q => .bool (t q)) gs]
  · rw [List.map_map, List.filter_eq_self.mpr (fun _ _ => rfl)]; rfl
  · intro q hq
    obtain ⟨ρ1, h1, h2⟩ := h q hq
    exact ⟨ρ1, h1, rfl, fun _ => h2⟩
theorem true_bx {f1 f2 f3} {w : W} {p : Nat} {a : Sn} {gs : List Nat} {t : Nat → Bool} (h3 : f3 [.d (encW w), .d (np p)] = some (gs.map np)) (h : ∀ q ∈ gs, f1 [.d (encW w), .d (np q), .d (enc a)] = some (.bool (t q))) :
    semP 3 10 (F_true_said f1 f2 f3) [.d (encW w), .d (np p), .d (enc (.bx a))] = some (.bool ((gs.map t).all id)) := by
  unfold F_true_said
  simp only [enc]
  walk_at "evh"
  rw [comp_bools (t := t)]
  · walk_at "ev"
    simp only [dAll_map]
    walk_at "ev"
  · intro q hq
    refine ⟨_, rfl, ?_⟩
    have h2 := h q hq
    walk_at "evh"
theorem true_my {f1 f2 f3} {w : W} {p : Nat} {a : Sn} {gs : List Nat} {t : Nat → Bool} (h3 : f3 [.d (encW w), .d (np p)] = some (gs.map np)) (h : ∀ q ∈ gs, f1 [.d (encW w), .d (np q), .d (enc a)] = some (.bool (t q))) :
    semP 3 10 (F_true_said f1 f2 f3) [.d (encW w), .d (np p), .d (enc (.my a))] = some (.bool ((gs.map t).any id)) := by
  unfold F_true_said
  simp only [enc]
  walk_at "evh"
  rw [comp_bools (t := t)]
  · walk_at "ev"
    simp only [dAny_map]
    walk_at "ev"
  · intro q hq
    refine ⟨_, rfl, ?_⟩
    have h2 := h q hq
    walk_at "evh"
theorem true_sd {f1 f2 f3} {w w' : W} {p : Nat} {a a' : Sn} {b b' : Bool} {ps : List Nat} (h : f1 [.d (encW w), .d (np p), .d (enc a)] = some (.bool b)) (h2 : b = true → f2 [.d (encW w), .d (enc a)] = some (.tuple [encW w', .tuple (ps.map np)]) ∧ p ∈ ps ∧ f1 [.d (encW w'), .d (np (idx ps p)), .d (enc a')] = some (.bool b')) :
    semP 3 10 (F_true_said f1 f2 f3) [.d (encW w), .d (np p), .d (enc (.sd a a'))] = some (.bool (!b || b')) := by
  unfold F_true_said
  simp only [enc]
  walk_at "evh"
  cases b with
  | false => walk_at "evh"
  | true =>
    obtain ⟨e1, e2, e3⟩ := h2 rfl
    have e4 := dIndex_np e2
    walk_at "evh"
/-- what one law tells of a sentence -/
def told (w : W) (ps : List Nat) : PyData := if ps = [] then .none else .tuple [encW (sub w ps), .tuple (ps.map np)]
theorem comp_keep {T : Type} {bd : PyData → En → Option En} {ft : En → T → Option (Bool × T)} {fe : En → T → Option (PyData × T)} {ρ : En} {g : T} {gs : List Nat} {t : Nat → Bool} (h : ∀ q ∈ gs, ∃ ρ1, bd (np q) ρ = some ρ1 ∧ ft ρ1 g = some (t q, g) ∧ fe ρ1 g = some (np q, g)) :
    compF bd ft fe ρ (gs.map np) g = some ((gs.filter t).map np, g) := by
  rw [compF_map np t np gs]
  intro q hq
  obtain ⟨ρ1, h1, h2, h3⟩ := h q hq
  exact ⟨ρ1, h1, h2, fun _ => h3⟩
end K75

set_option Elab.async false
set_option linter.all false
set_option maxRecDepth 100000
set_option maxHeartbeats 4000000
namespace K75
open PySem PySem.Spec L2 DL
local macro_rules | `(tactic| walk_at "ev0") => `(tactic| simp only [enter, List.length_cons, List.length_nil, List.replicate, List.cons_append, List.nil_append, sSeq, Nat.zero_add, Nat.reduceAdd, Nat.reduceSub])
local macro_rules | `(tactic| walk_at "ev") => `(tactic| try simp only [semP, semPN, semG, semGN, enter, outR, List.length_cons, List.length_nil, List.replicate, List.cons_append, List.nil_append, sSeq, sIf, sRet, sRetN, sRetO, sSkip, sSetH, sSet, sSetN, sAsgH, sAsg, sApp, sAppH, sDo, hide_nil, hide, hideAux, bName, bTup, bCons, bNil, fVar, fC, f1, f2, fIf, fB, fAnd, fOr, fNot, fAndV, fOrV, fNotV, fN, fTup, fLst, fNil, fCons, fConsR, fSl, fSlL, fPart, fB1, fB1N, fCall, fCallP, fCallPN, fCallN, fItems, wipeE, fRange1, dItems, mb_some, mb_none, mp_some, mp_none, agD, Option.map_some, Option.map_none, Option.bind_some, d1, d2, l1, dLen1, dInt1, dAbs1, dTuple1, dIx_t, dIx_l, dEq_int, dEq_np, imm_np, immL_nps, immL_bools, immL_strs, dEq_str, dNe_int, dNe_str, dEq_bool, dNe_bool, dGe_int, dGt_int, dLt_int, dLe_int, dAdd_int, dSub_int, dAddI_int, imm, immL, dIn_str2, dIn_str3, sq_name_name, sq_name_false, sq_name_said, sq_name_box, sq_name_may, sq_name_not, sq_name_and, sq_name_or, sq_name_then, sq_false_name, sq_false_false, sq_false_said, sq_false_box, sq_false_may, sq_false_not, sq_false_and, sq_false_or, sq_false_then, sq_said_name, sq_said_false, sq_said_said, sq_said_box, sq_said_may, sq_said_not, sq_said_and, sq_said_or, sq_said_then, sq_box_name, sq_box_false, sq_box_said, sq_box_box, sq_box_may, sq_box_not, sq_box_and, sq_box_or, sq_box_then, sq_may_name, sq_may_false, sq_may_said, sq_may_box, sq_may_may, sq_may_not, sq_may_and, sq_may_or, sq_may_then, sq_not_name, sq_not_false, sq_not_said, sq_not_box, sq_not_may, sq_not_not, sq_not_and, sq_not_or, sq_not_then, sq_and_name, sq_and_false, sq_and_said, sq_and_box, sq_and_may, sq_and_not, sq_and_and, sq_and_or, sq_and_then, sq_or_name, sq_or_false, sq_or_said, sq_or_box, sq_or_may, sq_or_not, sq_or_and, sq_or_or, sq_or_then, sq_then_name, sq_then_false, sq_then_said, sq_then_box, sq_then_may, sq_then_not, sq_then_and, sq_then_or, sq_then_then, atI_0, atI_1, atI_2, atI_3, List.getElem?_cons_zero, List.getElem?_cons_succ, List.set_cons_zero, List.set_cons_succ, if_true, if_false, Bool.false_eq_true, reduceIte, decide_true, decide_false, true_and, and_true, and_self, not_true_eq_false, not_false_eq_true, Nat.zero_add, Nat.reduceAdd, Nat.reduceSub, Nat.reduceEqDiff, List.contains_cons, List.contains_nil, Nat.reduceBEq, Bool.or_false, Bool.false_or, Bool.true_or, Bool.or_true, Bool.and_true, Bool.true_and, Bool.not_true, Bool.not_false, fM, dTuple1, sl0, sl1, sl2, sl3, sl4, sl5, sl6, sl7, sl8, sl9, sl10, sl11, sl12, Nat.reduceLeDiff])
local macro_rules | `(tactic| walk_at "evh") => `(tactic| try simp only [semP, semPN, semG, semGN, enter, outR, List.length_cons, List.length_nil, List.replicate, List.cons_append, List.nil_append, sSeq, sIf, sRet, sRetN, sRetO, sSkip, sSetH, sSet, sSetN, sAsgH, sAsg, sApp, sAppH, sDo, hide_nil, hide, hideAux, bName, bTup, bCons, bNil, fVar, fC, f1, f2, fIf, fB, fAnd, fOr, fNot, fAndV, fOrV, fNotV, fN, fTup, fLst, fNil, fCons, fConsR, fSl, fSlL, fPart, fB1, fB1N, fCall, fCallP, fCallPN, fCallN, fItems, wipeE, fRange1, dItems, mb_some, mb_none, mp_some, mp_none, agD, Option.map_some, Option.map_none, Option.bind_some, d1, d2, l1, dLen1, dInt1, dAbs1, dTuple1, dIx_t, dIx_l, dEq_int, dEq_np, imm_np, immL_nps, immL_bools, immL_strs, dEq_str, dNe_int, dNe_str, dEq_bool, dNe_bool, dGe_int, dGt_int, dLt_int, dLe_int, dAdd_int, dSub_int, dAddI_int, imm, immL, dIn_str2, dIn_str3, sq_name_name, sq_name_false, sq_name_said, sq_name_box, sq_name_may, sq_name_not, sq_name_and, sq_name_or, sq_name_then, sq_false_name, sq_false_false, sq_false_said, sq_false_box, sq_false_may, sq_false_not, sq_false_and, sq_false_or, sq_false_then, sq_said_name, sq_said_false, sq_said_said, sq_said_box, sq_said_may, sq_said_not, sq_said_and, sq_said_or, sq_said_then, sq_box_name, sq_box_false, sq_box_said, sq_box_box, sq_box_may, sq_box_not, sq_box_and, sq_box_or, sq_box_then, sq_may_name, sq_may_false, sq_may_said, sq_may_box, sq_may_may, sq_may_not, sq_may_and, sq_may_or, sq_may_then, sq_not_name, sq_not_false, sq_not_said, sq_not_box, sq_not_may, sq_not_not, sq_not_and, sq_not_or, sq_not_then, sq_and_name, sq_and_false, sq_and_said, sq_and_box, sq_and_may, sq_and_not, sq_and_and, sq_and_or, sq_and_then, sq_or_name, sq_or_false, sq_or_said, sq_or_box, sq_or_may, sq_or_not, sq_or_and, sq_or_or, sq_or_then, sq_then_name, sq_then_false, sq_then_said, sq_then_box, sq_then_may, sq_then_not, sq_then_and, sq_then_or, sq_then_then, atI_0, atI_1, atI_2, atI_3, List.getElem?_cons_zero, List.getElem?_cons_succ, List.set_cons_zero, List.set_cons_succ, if_true, if_false, Bool.false_eq_true, reduceIte, decide_true, decide_false, true_and, and_true, and_self, not_true_eq_false, not_false_eq_true, Nat.zero_add, Nat.reduceAdd, Nat.reduceSub, Nat.reduceEqDiff, List.contains_cons, List.contains_nil, Nat.reduceBEq, Bool.or_false, Bool.false_or, Bool.true_or, Bool.or_true, Bool.and_true, Bool.true_and, Bool.not_true, Bool.not_false, fM, dTuple1, sl0, sl1, sl2, sl3, sl4, sl5, sl6, sl7, sl8, sl9, sl10, sl11, sl12, Nat.reduceLeDiff, *])


theorem said_c1 {f1 : List Ag → Option PyData} {w : W} {a : Sn} {t : Nat → Bool} (hw : WF w) (h : ∀ q, q < w.n → f1 [.d (encW w), .d (np q), .d (enc a)] = some (.bool (t q))) : fComp (G := G0) (fRange1 (f2 dIx (fVar 0) (fC (.int 0)))) (bName 4) (fB (fCallP f1 (fCons (fVar 0) (fCons (fVar 4) (fCons (fVar 1) fNil))))) (fVar 4) [4] [.d (encW w), .d (enc a), .no, .no, .no, .no, .no] () = some (((List.range w.n).filter t).map np, ()) := by
  have r : fRange1 (G := G0) (f2 dIx (fVar 0) (fC (.int 0))) [.d (encW w), .d (enc a), .no, .no, .no, .no, .no] () = some ((List.range w.n).map np, ()) := by
    apply range_np (n := w.n) _ (by have := hw.sz; omega)
    unfold encW
    walk_at "ev"
  refine fComp_of np t np r fun q hq => ⟨_, rfl, ?_, fun _ => rfl⟩
  have e := h q (List.mem_range.mp hq)
  walk_at "evh"
theorem said_none {f1 : List Ag → Option PyData} {x y : PyData} {ls : List PyData} (e1 : fComp (G := G0) (fRange1 (f2 dIx (fVar 0) (fC (.int 0)))) (bName 4) (fB (fCallP f1 (fCons (fVar 0) (fCons (fVar 4) (fCons (fVar 1) fNil))))) (fVar 4) [4] [.d x, .d y, .no, .no, .no, .no, .no] () = some (ls, ())) (e2 : dEq (.tuple ls) (.tuple []) = some (.bool true)) : semP 2 7 (F_world_said f1) [.d x, .d y] = some .none := by
  unfold F_world_said
  walk_at "evh"
theorem said_some {f1 : List Ag → Option PyData} {x y : PyData} {ls l1 l2 l3 : List PyData} (e1 : fComp (G := G0) (fRange1 (f2 dIx (fVar 0) (fC (.int 0)))) (bName 4) (fB (fCallP f1 (fCons (fVar 0) (fCons (fVar 4) (fCons (fVar 1) fNil))))) (fVar 4) [4] [.d x, .d y, .no, .no, .no, .no, .no] () = some (ls, ())) (e2 : dEq (.tuple ls) (.tuple []) = some (.bool false))
    (e3 : fComp (G := G0) (fItems (f2 dIx (fVar 0) (fC (.int 1)))) (bTup 2 (bCons (bName 5) (bCons (bName 6) bNil))) (fAnd (fB (f2 dIn (fVar 5) (fVar 2))) (fB (f2 dIn (fVar 6) (fVar 2)))) (fTup (fCons (fM dIndex (fVar 2) (fCons (fVar 5) fNil)) (fCons (fM dIndex (fVar 2) (fCons (fVar 6) fNil)) fNil))) [5, 6] [.d x, .d y, .d (.tuple ls), .no, .no, .no, .no] () = some (l1, ())) (e4 : fComp (G := G0) (fItems (fVar 2)) (bName 4) fYes (f2 dIx (f2 dIx (fVar 0) (fC (.int 2))) (fVar 4)) [4] [.d x, .d y, .d (.tuple ls), .d (.list l1), .no, .no, .no] () = some (l2, ())) (e5 : dSortP (.list l1) = some l3) : semP 2 7 (F_world_said f1) [.d x, .d y] = some (.tuple [.tuple [.int ls.length, .tuple l3, .tuple l2], .tuple ls]) := by
  unfold F_world_said
  walk_at "evh"
theorem said_c3 {w : W} {y : PyData} {ps : List Nat} : fComp (G := G0) (fItems (f2 dIx (fVar 0) (fC (.int 1)))) (bTup 2 (bCons (bName 5) (bCons (bName 6) bNil))) (fAnd (fB (f2 dIn (fVar 5) (fVar 2))) (fB (f2 dIn (fVar 6) (fVar 2)))) (fTup (fCons (fM dIndex (fVar 2) (fCons (fVar 5) fNil)) (fCons (fM dIndex (fVar 2) (fCons (fVar 6) fNil)) fNil))) [5, 6] [.d (encW w), .d y, .d (.tuple (ps.map np)), .no, .no, .no, .no] () = some ((sub w ps).ar.map pr, ()) := by
  have r : (fItems (f2 dIx (fVar 0) (fC (.int 1))) : Fl G0) [.d (encW w), .d y, .d (.tuple (ps.map np)), .no, .no, .no, .no] () = some (w.ar.map pr, ()) := by
    unfold encW
    walk_at "ev"
  have := fComp_of (G := G0) (bd := bTup 2 (bCons (bName 5) (bCons (bName 6) bNil))) (ft := fAnd (fB (f2 dIn (fVar 5) (fVar 2))) (fB (f2 dIn (fVar 6) (fVar 2)))) (fe := fTup (fCons (fM dIndex (fVar 2) (fCons (fVar 5) fNil)) (fCons (fM dIndex (fVar 2) (fCons (fVar 6) fNil)) fNil))) (vs := [5, 6]) pr (fun q => decide (q.1 ∈ ps) && decide (q.2 ∈ ps)) (fun q => pr (idx ps q.1, idx ps q.2)) r fun q hq => ⟨[.d (encW w), .d y, .d (.tuple (ps.map np)), .no, .no, .d (np q.1), .d (np q.2)], rfl, ?_, fun hc => ?_⟩
  · rw [this]
    simp only [sub, List.map_map]
    rfl
  · have i1 := dIn_npT q.1 ps
    have i2 := dIn_npT q.2 ps
    generalize encW w = x
    generalize PyData.tuple (ps.map np) = l at i1 i2 ⊢
    walk_at "evh"
    cases decide (q.1 ∈ ps) <;> rfl
  · obtain ⟨h1, h2⟩ := Bool.and_eq_true_iff.mp hc
    have i1 := dIndex_np (of_decide_eq_true h1)
    have i2 := dIndex_np (of_decide_eq_true h2)
    generalize encW w = x
    generalize PyData.tuple (ps.map np) = l at i1 i2 ⊢
    walk_at "evh"
    rfl
theorem said_c4 {w : W} (hw : WF w) {y : PyData} {l1 : List PyData} {ps : List Nat} (hps : ∀ p ∈ ps, p < w.n) : fComp (G := G0) (fItems (fVar 2)) (bName 4) fYes (f2 dIx (f2 dIx (fVar 0) (fC (.int 2))) (fVar 4)) [4] [.d (encW w), .d y, .d (.tuple (ps.map np)), .d (.list l1), .no, .no, .no] () = some ((sub w ps).tr.map tD, ()) := by
  have := fComp_of (G := G0) (src := fItems (fVar 2)) (bd := bName 4) (ft := fYes) (fe := f2 dIx (f2 dIx (fVar 0) (fC (.int 2))) (fVar 4)) (vs := [4]) (ρ := [.d (encW w), .d y, .d (.tuple (ps.map np)), .d (.list l1), .no, .no, .no]) (g := ()) np (fun _ => true) (fun q => tD (w.tr.getD q [])) rfl fun q hq => ⟨[.d (encW w), .d y, .d (.tuple (ps.map np)), .d (.list l1), .d (np q), .no, .no], rfl, rfl, fun hc => ?_⟩
  · rw [this, List.filter_eq_self.mpr (fun _ _ => rfl)]
    simp only [sub, List.map_map]
    rfl
  · have i1 := lookT w hw (hps q hq)
    unfold encW
    generalize PyData.tuple (ps.map np) = l
    walk_at "evh"
theorem said_ok {f1 : List Ag → Option PyData} {w : W} {a : Sn} {t : Nat → Bool} (hw : WF w) (h : ∀ q, q < w.n → f1 [.d (encW w), .d (np q), .d (enc a)] = some (.bool (t q)))
    (hs : ∀ ps, (∀ p ∈ ps, p < w.n) → ps.Pairwise (· < ·) → sortP ((sub w ps).ar.map fun q => ((q.1 : Int), (q.2 : Int))) = (sub w ps).ar.map fun q => ((q.1 : Int), (q.2 : Int))) :
    semP 2 7 (F_world_said f1) [.d (encW w), .d (enc a)] = some (told w ((List.range w.n).filter t)) := by
  have e1 := said_c1 hw h
  have hp1 : ∀ p ∈ (List.range w.n).filter t, p < w.n := fun p hp => List.mem_range.mp (List.mem_filter.mp hp).1
  have hp2 : ((List.range w.n).filter t).Pairwise (· < ·) := List.Pairwise.filter _ List.pairwise_lt_range
  generalize (List.range w.n).filter t = ps at e1 hp1 hp2 ⊢
  have e2 := dEq_nilT ps
  unfold told
  by_cases hp : ps = []
  · rw [if_pos hp]
    exact said_none e1 (by rw [e2, decide_eq_true hp])
  · rw [if_neg hp]
    have e5 : dSortP (.list ((sub w ps).ar.map pr)) = some ((sub w ps).ar.map pr) := by
      have := dSortP_map ((sub w ps).ar.map fun q => ((q.1 : Int), (q.2 : Int)))
      rw [hs ps hp1 hp2, List.map_map] at this
      exact this
    have := said_some e1 (by rw [e2, decide_eq_false hp]) said_c3 (said_c4 hw hp1) e5
    rw [this, List.length_map]
    rfl
end K75

set_option Elab.async false
set_option linter.all false
set_option maxRecDepth 100000
set_option maxHeartbeats 4000000
namespace K75
open PySem PySem.Spec L2 DL
local macro_rules | `(tactic| walk_at "ev0") => `(tactic| simp only [enter, List.length_cons, List.length_nil, List.replicate, List.cons_append, List.nil_append, sSeq, Nat.zero_add, Nat.reduceAdd, Nat.reduceSub])
local macro_rules | `(tactic| walk_at "ev") => `(tactic| try simp only [semP, semPN, semG, semGN, enter, outR, List.length_cons, List.length_nil, List.replicate, List.cons_append, List.nil_append, sSeq, sIf, sRet, sRetN, sRetO, sSkip, sSetH, sSet, sSetN, sAsgH, sAsg, sApp, sAppH, sDo, hide_nil, hide, hideAux, bName, bTup, bCons, bNil, fVar, fC, f1, f2, fIf, fB, fAnd, fOr, fNot, fAndV, fOrV, fNotV, fN, fTup, fLst, fNil, fCons, fConsR, fSl, fSlL, fPart, fB1, fB1N, fCall, fCallP, fCallPN, fCallN, fItems, wipeE, fRange1, dItems, mb_some, mb_none, mp_some, mp_none, agD, Option.map_some, Option.map_none, Option.bind_some, d1, d2, l1, dLen1, dInt1, dAbs1, dTuple1, dIx_t, dIx_l, dEq_int, dEq_np, imm_np, immL_nps, immL_bools, immL_strs, dEq_str, dNe_int, dNe_str, dEq_bool, dNe_bool, dGe_int, dGt_int, dLt_int, dLe_int, dAdd_int, dSub_int, dAddI_int, imm, immL, dIn_str2, dIn_str3, sq_name_name, sq_name_false, sq_name_said, sq_name_box, sq_name_may, sq_name_not, sq_name_and, sq_name_or, sq_name_then, sq_false_name, sq_false_false, sq_false_said, sq_false_box, sq_false_may, sq_false_not, sq_false_and, sq_false_or, sq_false_then, sq_said_name, sq_said_false, sq_said_said, sq_said_box, sq_said_may, sq_said_not, sq_said_and, sq_said_or, sq_said_then, sq_box_name, sq_box_false, sq_box_said, sq_box_box, sq_box_may, sq_box_not, sq_box_and, sq_box_or, sq_box_then, sq_may_name, sq_may_false, sq_may_said, sq_may_box, sq_may_may, sq_may_not, sq_may_and, sq_may_or, sq_may_then, sq_not_name, sq_not_false, sq_not_said, sq_not_box, sq_not_may, sq_not_not, sq_not_and, sq_not_or, sq_not_then, sq_and_name, sq_and_false, sq_and_said, sq_and_box, sq_and_may, sq_and_not, sq_and_and, sq_and_or, sq_and_then, sq_or_name, sq_or_false, sq_or_said, sq_or_box, sq_or_may, sq_or_not, sq_or_and, sq_or_or, sq_or_then, sq_then_name, sq_then_false, sq_then_said, sq_then_box, sq_then_may, sq_then_not, sq_then_and, sq_then_or, sq_then_then, atI_0, atI_1, atI_2, atI_3, List.getElem?_cons_zero, List.getElem?_cons_succ, List.set_cons_zero, List.set_cons_succ, if_true, if_false, Bool.false_eq_true, reduceIte, decide_true, decide_false, true_and, and_true, and_self, not_true_eq_false, not_false_eq_true, Nat.zero_add, Nat.reduceAdd, Nat.reduceSub, Nat.reduceEqDiff, List.contains_cons, List.contains_nil, Nat.reduceBEq, Bool.or_false, Bool.false_or, Bool.true_or, Bool.or_true, Bool.and_true, Bool.true_and, Bool.not_true, Bool.not_false, fM, dTuple1, sl0, sl1, sl2, sl3, sl4, sl5, sl6, sl7, sl8, sl9, sl10, sl11, sl12, Nat.reduceLeDiff])
local macro_rules | `(tactic| walk_at "evh") => `(tactic| try simp only [semP, semPN, semG, semGN, enter, outR, List.length_cons, List.length_nil, List.replicate, List.cons_append, List.nil_append, sSeq, sIf, sRet, sRetN, sRetO, sSkip, sSetH, sSet, sSetN, sAsgH, sAsg, sApp, sAppH, sDo, hide_nil, hide, hideAux, bName, bTup, bCons, bNil, fVar, fC, f1, f2, fIf, fB, fAnd, fOr, fNot, fAndV, fOrV, fNotV, fN, fTup, fLst, fNil, fCons, fConsR, fSl, fSlL, fPart, fB1, fB1N, fCall, fCallP, fCallPN, fCallN, fItems, wipeE, fRange1, dItems, mb_some, mb_none, mp_some, mp_none, agD, Option.map_some, Option.map_none, Option.bind_some, d1, d2, l1, dLen1, dInt1, dAbs1, dTuple1, dIx_t, dIx_l, dEq_int, dEq_np, imm_np, immL_nps, immL_bools, immL_strs, dEq_str, dNe_int, dNe_str, dEq_bool, dNe_bool, dGe_int, dGt_int, dLt_int, dLe_int, dAdd_int, dSub_int, dAddI_int, imm, immL, dIn_str2, dIn_str3, sq_name_name, sq_name_false, sq_name_said, sq_name_box, sq_name_may, sq_name_not, sq_name_and, sq_name_or, sq_name_then, sq_false_name, sq_false_false, sq_false_said, sq_false_box, sq_false_may, sq_false_not, sq_false_and, sq_false_or, sq_false_then, sq_said_name, sq_said_false, sq_said_said, sq_said_box, sq_said_may, sq_said_not, sq_said_and, sq_said_or, sq_said_then, sq_box_name, sq_box_false, sq_box_said, sq_box_box, sq_box_may, sq_box_not, sq_box_and, sq_box_or, sq_box_then, sq_may_name, sq_may_false, sq_may_said, sq_may_box, sq_may_may, sq_may_not, sq_may_and, sq_may_or, sq_may_then, sq_not_name, sq_not_false, sq_not_said, sq_not_box, sq_not_may, sq_not_not, sq_not_and, sq_not_or, sq_not_then, sq_and_name, sq_and_false, sq_and_said, sq_and_box, sq_and_may, sq_and_not, sq_and_and, sq_and_or, sq_and_then, sq_or_name, sq_or_false, sq_or_said, sq_or_box, sq_or_may, sq_or_not, sq_or_and, sq_or_or, sq_or_then, sq_then_name, sq_then_false, sq_then_said, sq_then_box, sq_then_may, sq_then_not, sq_then_and, sq_then_or, sq_then_then, atI_0, atI_1, atI_2, atI_3, List.getElem?_cons_zero, List.getElem?_cons_succ, List.set_cons_zero, List.set_cons_succ, if_true, if_false, Bool.false_eq_true, reduceIte, decide_true, decide_false, true_and, and_true, and_self, not_true_eq_false, not_false_eq_true, Nat.zero_add, Nat.reduceAdd, Nat.reduceSub, Nat.reduceEqDiff, List.contains_cons, List.contains_nil, Nat.reduceBEq, Bool.or_false, Bool.false_or, Bool.true_or, Bool.or_true, Bool.and_true, Bool.true_and, Bool.not_true, Bool.not_false, fM, dTuple1, sl0, sl1, sl2, sl3, sl4, sl5, sl6, sl7, sl8, sl9, sl10, sl11, sl12, Nat.reduceLeDiff, *])



def iq (q : Nat × Nat) : Int × Int := ((q.1 : Int), (q.2 : Int))
theorem lexLe_of_lt {p q : Nat × Nat} (h : ltP p q) : lexLe (iq p) (iq q) = true := by
  unfold lexLe SrtO.lexB iq
  rcases h with h | ⟨h1, h2⟩
  · have : ¬ ((q.1 : Int) = (p.1 : Int)) := by omega
    have h' : ¬ ((q.1 : Int) < (p.1 : Int)) := by omega
    simp only [this, if_false, h', decide_false, Bool.not_false]
  · have : ((q.1 : Int) = (p.1 : Int)) := by omega
    have h' : ¬ ((q.2 : Int) < (p.2 : Int)) := by omega
    simp only [this, if_true, h', decide_false, Bool.not_false]
theorem sort_id {l : List (Nat × Nat)} (h : l.Pairwise ltP) : sortP (l.map iq) = l.map iq :=
  List.mergeSort_of_pairwise (List.pairwise_map.mpr (h.imp lexLe_of_lt))
theorem idx_mono : ∀ {ps : List Nat} (_ : ps.Pairwise (· < ·)) {a b : Nat}, a ∈ ps → b ∈ ps → a < b → idx ps a < idx ps b
  | p :: ps, h, a, b, ha, hb, hab => by
    obtain ⟨h1, h2⟩ := List.pairwise_cons.mp h
    unfold idx
    by_cases e : p = a
    · rw [if_pos e, if_neg (by omega)]; omega
    · rw [if_neg e]
      have ha' : a ∈ ps := (List.mem_cons.mp ha).resolve_left fun z => e z.symm
      have := h1 a ha'
      rw [if_neg (by omega)]
      have hb' : b ∈ ps := (List.mem_cons.mp hb).resolve_left fun z => by omega
      have := idx_mono h2 ha' hb' hab
      omega
theorem sub_so {w : W} (hw : WF w) {ps : List Nat} (hp : ps.Pairwise (· < ·)) : (sub w ps).ar.Pairwise ltP := by
  unfold sub
  refine List.pairwise_map.mpr ?_
  refine List.Pairwise.imp_of_mem ?_ (hw.so.filter _)
  intro x y hx hy hxy
  have h1 := (List.mem_filter.mp hx).2
  have h2 := (List.mem_filter.mp hy).2
  simp only [Bool.and_eq_true, decide_eq_true_eq] at h1 h2
  rcases hxy with h | ⟨h, h'⟩
  · exact .inl (idx_mono hp h1.1 h2.1 h)
  · exact .inr ⟨by show idx ps x.1 = idx ps y.1; rw [h], idx_mono hp h1.2 h2.2 h'⟩
theorem sub_wf {w : W} (hw : WF w) {ps : List Nat} (hp : ps.Pairwise (· < ·)) (hl : ps.length ≤ w.n) : WF (sub w ps) where
  tr := by simp [sub]
  ar := fun q hq => by
    unfold sub at hq
    obtain ⟨x, hx, rfl⟩ := List.mem_map.mp hq
    have h1 := (List.mem_filter.mp hx).2
    simp only [Bool.and_eq_true, decide_eq_true_eq] at h1
    exact ⟨idx_lt h1.1, idx_lt h1.2⟩
  so := sub_so hw hp
  sz := ⟨Nat.le_trans hl hw.sz.1, by
    unfold sub
    rw [List.length_map]
    exact Nat.le_trans (List.length_filter_le _ _) hw.sz.2⟩
def pts (t : Nat → Bool) (n : Nat) : List Nat := (List.range n).filter t
theorem pts_lt (t : Nat → Bool) (n : Nat) : (pts t n).Pairwise (· < ·) := List.Pairwise.filter _ List.pairwise_lt_range
theorem pts_len (t : Nat → Bool) (n : Nat) : (pts t n).length ≤ n := by
  have := List.length_filter_le t (List.range n)
  rw [List.length_range] at this; exact this
theorem pts_mem {t : Nat → Bool} {n p : Nat} : p ∈ pts t n ↔ p < n ∧ t p = true := by
  unfold pts; rw [List.mem_filter, List.mem_range]
theorem said_fin {k : Nat} {w : W} {a : Sn} {t : Nat → Bool} (hw : WF w) (h : ∀ q, q < w.n → S_true_said k [.d (encW w), .d (np q), .d (enc a)] = some (.bool (t q))) : S_world_said (k + 1) [.d (encW w), .d (enc a)] = some (told w (pts t w.n)) := by
  rw [S_world_said]
  exact said_ok hw h fun ps hp1 hp2 => sort_id (sub_so hw hp2)
theorem true_ok : ∀ n s w p, WF w → p < w.n → 2 * ht s < n → S_true_said n [.d (encW w), .d (np p), .d (enc s)] = some (.bool (T s w p)) := by
  intro n
  induction n using Nat.strongRecOn with
  | _ n ih =>
    intro s w p hw hp hn
    obtain ⟨k, rfl⟩ : ∃ k, n = k + 1 := ⟨n - 1, by omega⟩
    rw [S_true_said]
    cases s with
    | nm x => exact true_nm hw hp x
    | fl => exact true_fl
    | nt a => exact true_nt (ih k (by omega) a w p hw hp (by simp only [ht] at hn; omega))
    | bx a => exact true_bx (goals_ok w p) fun q hq => ih k (by omega) a w q hw (by
        obtain ⟨x, hx, rfl⟩ := List.mem_map.mp hq
        exact (hw.ar x (List.mem_filter.mp hx).1).2) (by simp only [ht] at hn; omega)
    | my a => exact true_my (goals_ok w p) fun q hq => ih k (by omega) a w q hw (by
        obtain ⟨x, hx, rfl⟩ := List.mem_map.mp hq
        exact (hw.ar x (List.mem_filter.mp hx).1).2) (by simp only [ht] at hn; omega)
    | an a b => exact true_an (ih k (by omega) a w p hw hp (by simp only [ht] at hn; omega)) (ih k (by omega) b w p hw hp (by simp only [ht] at hn; omega))
    | or a b => exact true_or (ih k (by omega) a w p hw hp (by simp only [ht] at hn; omega)) (ih k (by omega) b w p hw hp (by simp only [ht] at hn; omega))
    | th a b => exact true_th (ih k (by omega) a w p hw hp (by simp only [ht] at hn; omega)) (ih k (by omega) b w p hw hp (by simp only [ht] at hn; omega))
    | sd a b =>
      simp only [ht] at hn
      obtain ⟨j, rfl⟩ : ∃ j, k = j + 1 := ⟨k - 1, by omega⟩
      refine true_sd (w' := sub w (pts (fun q => T a w q) w.n)) (ps := pts (fun q => T a w q) w.n) (ih (j + 1) (by omega) a w p hw hp (by omega)) fun ht => ?_
      have hm : p ∈ pts (fun q => T a w q) w.n := pts_mem.mpr ⟨hp, ht⟩
      have hs := said_fin (k := j) hw fun q hq => ih j (by omega) a w q hw hq (by omega)
      refine ⟨?_, hm, ?_⟩
      · rw [hs]
        unfold told
        rw [if_neg (fun z => by rw [z] at hm; cases hm)]
      · exact ih (j + 1) (by omega) b _ _ (sub_wf hw (pts_lt _ _) (pts_len _ _)) (idx_lt hm) (by omega)
/-! ### worlds that stand for a part of a world -/
structure Rep (w' w : W) (h : List Nat) : Prop where
  n : w'.n = h.length
  tr : w'.tr = h.map fun p => w.tr.getD p []
  ar : ∀ i j, (i, j) ∈ w'.ar ↔ ∃ a b, h[i]? = some a ∧ h[j]? = some b ∧ (a, b) ∈ w.ar
theorem sub_mem {w : W} {ps : List Nat} {i j : Nat} : (i, j) ∈ (sub w ps).ar ↔ ∃ x y, (x, y) ∈ w.ar ∧ x ∈ ps ∧ y ∈ ps ∧ idx ps x = i ∧ idx ps y = j := by
  unfold sub
  simp only [List.mem_map, List.mem_filter, Bool.and_eq_true, decide_eq_true_eq, Prod.mk.injEq]
  constructor
  · rintro ⟨⟨x, y⟩, ⟨h1, h2, h3⟩, h4, h5⟩; exact ⟨x, y, h1, h2, h3, h4, h5⟩
  · rintro ⟨x, y, h1, h2, h3, h4, h5⟩; exact ⟨(x, y), ⟨h1, h2, h3⟩, h4, h5⟩
theorem getD_of {h : List Nat} {i a : Nat} (e : h[i]? = some a) : h.getD i 0 = a := by rw [List.getD_eq_getElem?_getD, e]; rfl
theorem get_of {h : List Nat} {i : Nat} (e : i < h.length) : h[i]? = some (h.getD i 0) := by rw [List.getD_eq_getElem?_getD, List.getElem?_eq_getElem e]; rfl
theorem rep_sub {w' w : W} {h ps : List Nat} (r : Rep w' w h) (hn : ps.Nodup) (hp : ∀ p ∈ ps, p < w'.n) : Rep (sub w' ps) w (ps.map fun p => h.getD p 0) where
  n := by simp [sub]
  tr := by
    simp only [sub, List.map_map]
    apply List.map_congr_left
    intro p hpm
    have hl : p < h.length := by rw [← r.n]; exact hp p hpm
    simp only [Function.comp]
    rw [r.tr]
    rw [List.getD_eq_getElem?_getD, List.getElem?_map, get_of hl]; rfl
  ar := fun i j => by
    rw [sub_mem]
    constructor
    · rintro ⟨x, y, h1, h2, h3, rfl, rfl⟩
      obtain ⟨a, b, h4, h5, h6⟩ := (r.ar x y).mp h1
      refine ⟨a, b, ?_, ?_, h6⟩
      · rw [List.getElem?_map, idx_get h2, Option.map_some, getD_of h4]
      · rw [List.getElem?_map, idx_get h3, Option.map_some, getD_of h5]
    · rintro ⟨a, b, h1, h2, h3⟩
      rw [List.getElem?_map, Option.map_eq_some_iff] at h1 h2
      obtain ⟨x, hx, rfl⟩ := h1
      obtain ⟨y, hy, rfl⟩ := h2
      have mx := List.mem_of_getElem? hx
      have my := List.mem_of_getElem? hy
      refine ⟨x, y, (r.ar x y).mpr ⟨_, _, get_of (by rw [← r.n]; exact hp x mx), get_of (by rw [← r.n]; exact hp y my), h3⟩, mx, my, idx_of hn hx, idx_of hn hy⟩
theorem T_bx (a : Sn) (w : W) (p : Nat) : T (.bx a) w p = true ↔ ∀ j, (p, j) ∈ w.ar → T a w j = true := by
  simp only [T, List.all_eq_true, List.mem_map, List.mem_filter, decide_eq_true_eq, id]
  constructor
  · intro h j hj; exact h _ ⟨j, ⟨(p, j), ⟨hj, rfl⟩, rfl⟩, rfl⟩
  · rintro h _ ⟨_, ⟨⟨x, y⟩, ⟨h1, rfl⟩, rfl⟩, rfl⟩; exact h y h1
theorem T_my (a : Sn) (w : W) (p : Nat) : T (.my a) w p = true ↔ ∃ j, (p, j) ∈ w.ar ∧ T a w j = true := by
  simp only [T, List.any_eq_true, List.mem_map, List.mem_filter, decide_eq_true_eq, id]
  constructor
  · rintro ⟨_, ⟨_, ⟨⟨x, y⟩, ⟨h1, rfl⟩, rfl⟩, rfl⟩, h2⟩; exact ⟨y, h1, h2⟩
  · rintro ⟨j, h1, h2⟩; exact ⟨_, ⟨j, ⟨(p, j), ⟨h1, rfl⟩, rfl⟩, rfl⟩, h2⟩
theorem L_bx (w : W) (a : Sn) (h : List Nat) (p : Nat) : L w (.bx a) h p = true ↔ ∀ j, (p, j) ∈ w.ar → j ∈ h → L w a h j = true := by
  simp only [L, List.all_eq_true, List.mem_map, List.mem_filter, Bool.and_eq_true, decide_eq_true_eq, id]
  constructor
  · intro k j hj hh; exact k _ ⟨(p, j), ⟨hj, rfl, hh⟩, rfl⟩
  · rintro k _ ⟨⟨x, y⟩, ⟨h1, rfl, h2⟩, rfl⟩; exact k y h1 h2
theorem L_my (w : W) (a : Sn) (h : List Nat) (p : Nat) : L w (.my a) h p = true ↔ ∃ j, (p, j) ∈ w.ar ∧ j ∈ h ∧ L w a h j = true := by
  simp only [L, List.any_eq_true, List.mem_map, List.mem_filter, Bool.and_eq_true, decide_eq_true_eq, id]
  constructor
  · rintro ⟨_, ⟨⟨x, y⟩, ⟨h1, rfl, h2⟩, rfl⟩, h3⟩; exact ⟨y, h1, h2, h3⟩
  · rintro ⟨j, h1, h2, h3⟩; exact ⟨_, ⟨(p, j), ⟨h1, rfl, h2⟩, rfl⟩, h3⟩
theorem filter_pts {h : List Nat} {f g : Nat → Bool} {n : Nat} (hn : n = h.length) (e : ∀ i a, h[i]? = some a → f i = g a) : (pts f n).map (fun p => h.getD p 0) = h.filter g := by
  have : h = (List.range h.length).map fun p => h.getD p 0 := by
    apply List.ext_getElem?
    intro i
    rw [List.getElem?_map]
    by_cases hi : i < h.length
    · rw [List.getElem?_range hi, Option.map_some, get_of hi]
    · rw [List.getElem?_eq_none (by omega), List.getElem?_eq_none (by simp; omega)]; rfl
  conv => rhs; rw [this]
  rw [List.filter_map]
  unfold pts
  subst hn
  congr 1
  apply List.filter_congr
  intro i hi
  exact e i _ (get_of (List.mem_range.mp hi))
theorem rep_true : ∀ s w' w h, Rep w' w h → h.Nodup → ∀ i a, h[i]? = some a → T s w' i = L w s h a
  | .nm x, w', w, h, r, hn, i, a, e => by
    simp only [T, L]
    rw [r.tr, List.getD_eq_getElem?_getD, List.getElem?_map, e]; rfl
  | .fl, _, _, _, _, _, _, _, _ => rfl
  | .nt s, w', w, h, r, hn, i, a, e => by simp only [T, L, rep_true s w' w h r hn i a e]
  | .an s s', w', w, h, r, hn, i, a, e => by simp only [T, L, rep_true s w' w h r hn i a e, rep_true s' w' w h r hn i a e]
  | .or s s', w', w, h, r, hn, i, a, e => by simp only [T, L, rep_true s w' w h r hn i a e, rep_true s' w' w h r hn i a e]
  | .th s s', w', w, h, r, hn, i, a, e => by simp only [T, L, rep_true s w' w h r hn i a e, rep_true s' w' w h r hn i a e]
  | .bx s, w', w, h, r, hn, i, a, e => by
    rw [Bool.eq_iff_iff, T_bx, L_bx]
    constructor
    · intro k c hc hm
      obtain ⟨j, hj, hj'⟩ := List.getElem_of_mem hm
      have ej : h[j]? = some c := by rw [List.getElem?_eq_getElem hj, hj']
      rw [← rep_true s w' w h r hn j c ej]
      exact k j ((r.ar i j).mpr ⟨a, c, e, ej, hc⟩)
    · intro k j hj
      obtain ⟨a', c, e1, e2, h3⟩ := (r.ar i j).mp hj
      rw [e] at e1; cases e1
      rw [rep_true s w' w h r hn j c e2]
      exact k c h3 (List.mem_of_getElem? e2)
  | .my s, w', w, h, r, hn, i, a, e => by
    rw [Bool.eq_iff_iff, T_my, L_my]
    constructor
    · rintro ⟨j, hj, ht⟩
      obtain ⟨a', c, e1, e2, h3⟩ := (r.ar i j).mp hj
      rw [e] at e1; cases e1
      exact ⟨c, h3, List.mem_of_getElem? e2, by rw [← rep_true s w' w h r hn j c e2]; exact ht⟩
    · rintro ⟨c, hc, hm, hl⟩
      obtain ⟨j, hj, hj'⟩ := List.getElem_of_mem hm
      have ej : h[j]? = some c := by rw [List.getElem?_eq_getElem hj, hj']
      exact ⟨j, (r.ar i j).mpr ⟨a, c, e, ej, hc⟩, by rw [rep_true s w' w h r hn j c ej]; exact hl⟩
  | .sd s s', w', w, h, r, hn, i, a, e => by
    have ih := rep_true s w' w h r hn
    simp only [T, L]
    rw [ih i a e]
    cases hc : L w s h a with
    | false => rfl
    | true =>
      simp only [Bool.not_true, Bool.false_or]
      show T s' (sub w' (pts (fun q => T s w' q) w'.n)) (idx (pts (fun q => T s w' q) w'.n) i) = _
      have ef := filter_pts (h := h) (f := fun q => T s w' q) (g := fun q => L w s h q) r.n ih
      have nd : (pts (fun q => T s w' q) w'.n).Nodup := (pts_lt _ _).imp (fun h => Nat.ne_of_lt h)
      have r2 := rep_sub r nd fun p hp => (pts_mem.mp hp).1
      have il : i < w'.n := by
        rw [r.n]; obtain ⟨q, _⟩ := List.getElem?_eq_some_iff.mp e; exact q
      have hm : i ∈ pts (fun q => T s w' q) w'.n := pts_mem.mpr ⟨il, by rw [ih i a e]; exact hc⟩
      rw [ef] at r2
      refine rep_true s' _ w _ r2 (hn.filter _) _ a ?_
      rw [← ef, List.getElem?_map, idx_get hm, Option.map_some, getD_of e]
theorem rep_self {w : W} (hw : WF w) : Rep w w (List.range w.n) where
  n := by rw [List.length_range]
  tr := by
    apply List.ext_getElem?
    intro i
    rw [List.getElem?_map]
    by_cases hi : i < w.n
    · rw [List.getElem?_range hi, Option.map_some, List.getD_eq_getElem?_getD, List.getElem?_eq_getElem (by rw [hw.tr]; exact hi)]; rfl
    · rw [List.getElem?_eq_none (by rw [hw.tr]; omega), List.getElem?_eq_none (by simp; omega)]; rfl
  ar := fun i j => by
    constructor
    · intro h
      obtain ⟨h1, h2⟩ := hw.ar _ h
      exact ⟨i, j, List.getElem?_range h1, List.getElem?_range h2, h⟩
    · rintro ⟨a, b, h1, h2, h3⟩
      obtain ⟨q1, e1⟩ := List.getElem?_eq_some_iff.mp h1
      obtain ⟨q2, e2⟩ := List.getElem?_eq_some_iff.mp h2
      rw [List.getElem_range] at e1 e2
      subst e1 e2; exact h3
theorem T_eq_L {w : W} (hw : WF w) (s : Sn) {p : Nat} (hp : p < w.n) : T s w p = L w s (List.range w.n) p := rep_true s w w _ (rep_self hw) List.nodup_range p p (List.getElem?_range hp)
end K75

set_option Elab.async false
set_option linter.all false
set_option maxRecDepth 100000
set_option maxHeartbeats 4000000
namespace K75
open PySem PySem.Spec L2 DL
local macro_rules | `(tactic| walk_at "ev0") => `(tactic| simp only [enter, List.length_cons, List.length_nil, List.replicate, List.cons_append, List.nil_append, sSeq, Nat.zero_add, Nat.reduceAdd, Nat.reduceSub])
local macro_rules | `(tactic| walk_at "ev") => `(tactic| try simp only [semP, semPN, semG, semGN, enter, outR, List.length_cons, List.length_nil, List.replicate, List.cons_append, List.nil_append, sSeq, sIf, sRet, sRetN, sRetO, sSkip, sSetH, sSet, sSetN, sAsgH, sAsg, sApp, sAppH, sDo, hide_nil, hide, hideAux, bName, bTup, bCons, bNil, fVar, fC, f1, f2, fIf, fB, fAnd, fOr, fNot, fAndV, fOrV, fNotV, fN, fTup, fLst, fNil, fCons, fConsR, fSl, fSlL, fPart, fB1, fB1N, fCall, fCallP, fCallPN, fCallN, fItems, wipeE, fComp, compF, fYes, dSl, cut_1, fSl, fPart, fRange1, dItems, mb_some, mb_none, mp_some, mp_none, agD, Option.map_some, Option.map_none, Option.bind_some, d1, d2, l1, dLen1, dInt1, dAbs1, dTuple1, dIx_t, dIx_l, dEq_int, dEq_np, imm_np, immL_nps, immL_bools, immL_strs, dEq_str, dNe_int, dNe_str, dEq_bool, dNe_bool, dGe_int, dGt_int, dLt_int, dLe_int, dAdd_int, dSub_int, dAddI_int, imm, immL, dIn_str2, dIn_str3, sq_name_name, sq_name_false, sq_name_said, sq_name_box, sq_name_may, sq_name_not, sq_name_and, sq_name_or, sq_name_then, sq_false_name, sq_false_false, sq_false_said, sq_false_box, sq_false_may, sq_false_not, sq_false_and, sq_false_or, sq_false_then, sq_said_name, sq_said_false, sq_said_said, sq_said_box, sq_said_may, sq_said_not, sq_said_and, sq_said_or, sq_said_then, sq_box_name, sq_box_false, sq_box_said, sq_box_box, sq_box_may, sq_box_not, sq_box_and, sq_box_or, sq_box_then, sq_may_name, sq_may_false, sq_may_said, sq_may_box, sq_may_may, sq_may_not, sq_may_and, sq_may_or, sq_may_then, sq_not_name, sq_not_false, sq_not_said, sq_not_box, sq_not_may, sq_not_not, sq_not_and, sq_not_or, sq_not_then, sq_and_name, sq_and_false, sq_and_said, sq_and_box, sq_and_may, sq_and_not, sq_and_and, sq_and_or, sq_and_then, sq_or_name, sq_or_false, sq_or_said, sq_or_box, sq_or_may, sq_or_not, sq_or_and, sq_or_or, sq_or_then, sq_then_name, sq_then_false, sq_then_said, sq_then_box, sq_then_may, sq_then_not, sq_then_and, sq_then_or, sq_then_then, atI_0, atI_1, atI_2, atI_3, List.getElem?_cons_zero, List.getElem?_cons_succ, List.set_cons_zero, List.set_cons_succ, if_true, if_false, Bool.false_eq_true, reduceIte, decide_true, decide_false, true_and, and_true, and_self, not_true_eq_false, not_false_eq_true, Nat.zero_add, Nat.reduceAdd, Nat.reduceSub, Nat.reduceEqDiff, List.contains_cons, List.contains_nil, Nat.reduceBEq, Bool.or_false, Bool.false_or, Bool.true_or, Bool.or_true, Bool.and_true, Bool.true_and, Bool.not_true, Bool.not_false, fM, dTuple1, sl0, sl1, sl2, sl3, sl4, sl5, sl6, sl7, sl8, sl9, sl10, sl11, sl12, Nat.reduceLeDiff])
local macro_rules | `(tactic| walk_at "evh") => `(tactic| try simp only [semP, semPN, semG, semGN, enter, outR, List.length_cons, List.length_nil, List.replicate, List.cons_append, List.nil_append, sSeq, sIf, sRet, sRetN, sRetO, sSkip, sSetH, sSet, sSetN, sAsgH, sAsg, sApp, sAppH, sDo, hide_nil, hide, hideAux, bName, bTup, bCons, bNil, fVar, fC, f1, f2, fIf, fB, fAnd, fOr, fNot, fAndV, fOrV, fNotV, fN, fTup, fLst, fNil, fCons, fConsR, fSl, fSlL, fPart, fB1, fB1N, fCall, fCallP, fCallPN, fCallN, fItems, wipeE, fComp, compF, fYes, dSl, cut_1, fSl, fPart, fRange1, dItems, mb_some, mb_none, mp_some, mp_none, agD, Option.map_some, Option.map_none, Option.bind_some, d1, d2, l1, dLen1, dInt1, dAbs1, dTuple1, dIx_t, dIx_l, dEq_int, dEq_np, imm_np, immL_nps, immL_bools, immL_strs, dEq_str, dNe_int, dNe_str, dEq_bool, dNe_bool, dGe_int, dGt_int, dLt_int, dLe_int, dAdd_int, dSub_int, dAddI_int, imm, immL, dIn_str2, dIn_str3, sq_name_name, sq_name_false, sq_name_said, sq_name_box, sq_name_may, sq_name_not, sq_name_and, sq_name_or, sq_name_then, sq_false_name, sq_false_false, sq_false_said, sq_false_box, sq_false_may, sq_false_not, sq_false_and, sq_false_or, sq_false_then, sq_said_name, sq_said_false, sq_said_said, sq_said_box, sq_said_may, sq_said_not, sq_said_and, sq_said_or, sq_said_then, sq_box_name, sq_box_false, sq_box_said, sq_box_box, sq_box_may, sq_box_not, sq_box_and, sq_box_or, sq_box_then, sq_may_name, sq_may_false, sq_may_said, sq_may_box, sq_may_may, sq_may_not, sq_may_and, sq_may_or, sq_may_then, sq_not_name, sq_not_false, sq_not_said, sq_not_box, sq_not_may, sq_not_not, sq_not_and, sq_not_or, sq_not_then, sq_and_name, sq_and_false, sq_and_said, sq_and_box, sq_and_may, sq_and_not, sq_and_and, sq_and_or, sq_and_then, sq_or_name, sq_or_false, sq_or_said, sq_or_box, sq_or_may, sq_or_not, sq_or_and, sq_or_or, sq_or_then, sq_then_name, sq_then_false, sq_then_said, sq_then_box, sq_then_may, sq_then_not, sq_then_and, sq_then_or, sq_then_then, atI_0, atI_1, atI_2, atI_3, List.getElem?_cons_zero, List.getElem?_cons_succ, List.set_cons_zero, List.set_cons_succ, if_true, if_false, Bool.false_eq_true, reduceIte, decide_true, decide_false, true_and, and_true, and_self, not_true_eq_false, not_false_eq_true, Nat.zero_add, Nat.reduceAdd, Nat.reduceSub, Nat.reduceEqDiff, List.contains_cons, List.contains_nil, Nat.reduceBEq, Bool.or_false, Bool.false_or, Bool.true_or, Bool.or_true, Bool.and_true, Bool.true_and, Bool.not_true, Bool.not_false, fM, dTuple1, sl0, sl1, sl2, sl3, sl4, sl5, sl6, sl7, sl8, sl9, sl10, sl11, sl12, Nat.reduceLeDiff, *])



theorem dAdd_x1 : True := trivial
theorem dAdd_x {a b : List PyData} (h : a.length + b.length ≤ sizeLine) : dAdd (.tuple a) (.tuple b) = some (.tuple (a ++ b)) := by
  simp only [dAdd]; rw [if_pos h]
def Bh (f : Sn) : Sn → Sn
  | .nm x => .th f (.nm x)
  | .fl => .th f .fl
  | .nt a => .th f (.nt (Bh f a))
  | .bx a => .th f (.bx (Bh f a))
  | .my a => .th f (.my (.an f (Bh f a)))
  | .an a b => .an (Bh f a) (Bh f b)
  | .or a b => .or (Bh f a) (Bh f b)
  | .th a b => .th (Bh f a) (Bh f b)
  | .sd a b => .sd a b
def Wo : Sn → Sn
  | .nm x => .nm x
  | .fl => .fl
  | .nt a => .nt (Wo a)
  | .bx a => .bx (Wo a)
  | .my a => .my (Wo a)
  | .an a b => .an (Wo a) (Wo b)
  | .or a b => .or (Wo a) (Wo b)
  | .th a b => .th (Wo a) (Wo b)
  | .sd a b => Bh (Wo a) (Wo b)
def good : Sn → Prop
  | .nm x => PyData.strOk x = true
  | .fl => True
  | .nt a => good a | .bx a => good a | .my a => good a
  | .an a b => good a ∧ good b | .or a b => good a ∧ good b | .th a b => good a ∧ good b
  | .sd a b => good a ∧ good b
def free : Sn → Prop
  | .nm _ => True
  | .fl => True
  | .nt a => free a | .bx a => free a | .my a => free a
  | .an a b => free a ∧ free b | .or a b => free a ∧ free b | .th a b => free a ∧ free b
  | .sd _ _ => False
theorem Bh_good {f : Sn} (hf : good f) : ∀ {s : Sn}, good s → good (Bh f s)
  | .nm _, h => ⟨hf, h⟩
  | .fl, h => ⟨hf, h⟩
  | .nt a, h => ⟨hf, Bh_good hf (s := a) h⟩
  | .bx a, h => ⟨hf, Bh_good hf (s := a) h⟩
  | .my a, h => ⟨hf, hf, Bh_good hf (s := a) h⟩
  | .an a b, h => ⟨Bh_good hf h.1, Bh_good hf h.2⟩
  | .or a b, h => ⟨Bh_good hf h.1, Bh_good hf h.2⟩
  | .th a b, h => ⟨Bh_good hf h.1, Bh_good hf h.2⟩
  | .sd a b, h => h
theorem Bh_free {f : Sn} (hf : free f) : ∀ {s : Sn}, free s → free (Bh f s)
  | .nm _, h => ⟨hf, h⟩
  | .fl, h => ⟨hf, h⟩
  | .nt a, h => ⟨hf, Bh_free hf (s := a) h⟩
  | .bx a, h => ⟨hf, Bh_free hf (s := a) h⟩
  | .my a, h => ⟨hf, hf, Bh_free hf (s := a) h⟩
  | .an a b, h => ⟨Bh_free hf h.1, Bh_free hf h.2⟩
  | .or a b, h => ⟨Bh_free hf h.1, Bh_free hf h.2⟩
  | .th a b, h => ⟨Bh_free hf h.1, Bh_free hf h.2⟩
  | .sd a b, h => h.elim
theorem Wo_good : ∀ {s : Sn}, good s → good (Wo s)
  | .nm _, h => h
  | .fl, h => h
  | .nt a, h => Wo_good (s := a) h
  | .bx a, h => Wo_good (s := a) h
  | .my a, h => Wo_good (s := a) h
  | .an a b, h => ⟨Wo_good h.1, Wo_good h.2⟩
  | .or a b, h => ⟨Wo_good h.1, Wo_good h.2⟩
  | .th a b, h => ⟨Wo_good h.1, Wo_good h.2⟩
  | .sd a b, h => Bh_good (Wo_good h.1) (Wo_good h.2)
theorem Wo_free : ∀ s : Sn, free (Wo s)
  | .nm _ => trivial
  | .fl => trivial
  | .nt a => Wo_free a
  | .bx a => Wo_free a
  | .my a => Wo_free a
  | .an a b => ⟨Wo_free a, Wo_free b⟩
  | .or a b => ⟨Wo_free a, Wo_free b⟩
  | .th a b => ⟨Wo_free a, Wo_free b⟩
  | .sd a b => Bh_free (Wo_free a) (Wo_free b)
theorem Bh_ht (f : Sn) : ∀ s : Sn, ht (Bh f s) ≤ 3 * ht s + 1 + ht f
  | .nm _ => by simp only [Bh, ht]; omega
  | .fl => by simp only [Bh, ht]; omega
  | .nt a => by have := Bh_ht f a; simp only [Bh, ht]; omega
  | .bx a => by have := Bh_ht f a; simp only [Bh, ht]; omega
  | .my a => by have := Bh_ht f a; simp only [Bh, ht]; omega
  | .an a b => by have := Bh_ht f a; have := Bh_ht f b; simp only [Bh, ht]; omega
  | .or a b => by have := Bh_ht f a; have := Bh_ht f b; simp only [Bh, ht]; omega
  | .th a b => by have := Bh_ht f a; have := Bh_ht f b; simp only [Bh, ht]; omega
  | .sd a b => by simp only [Bh]; omega
def gro : Nat → Nat
  | 0 => 0
  | n + 1 => 4 * gro n + 1
theorem gro_mono : ∀ {n m : Nat}, n ≤ m → gro n ≤ gro m
  | 0, _, _ => by simp only [gro]; omega
  | n + 1, 0, h => by omega
  | n + 1, m + 1, h => by have := gro_mono (n := n) (m := m) (by omega); simp only [gro]; omega
theorem Wo_ht : ∀ s : Sn, ht (Wo s) ≤ gro (ht s)
  | .nm _ => by simp only [Wo, ht, gro]; omega
  | .fl => by simp only [Wo, ht, gro]; omega
  | .nt a => by have := Wo_ht a; simp only [Wo, ht, gro]; omega
  | .bx a => by have := Wo_ht a; simp only [Wo, ht, gro]; omega
  | .my a => by have := Wo_ht a; simp only [Wo, ht, gro]; omega
  | .an a b => by
    have := Wo_ht a; have := Wo_ht b
    have := gro_mono (Nat.le_max_left (ht a) (ht b)); have := gro_mono (Nat.le_max_right (ht a) (ht b))
    simp only [Wo, ht, gro]; omega
  | .or a b => by
    have := Wo_ht a; have := Wo_ht b
    have := gro_mono (Nat.le_max_left (ht a) (ht b)); have := gro_mono (Nat.le_max_right (ht a) (ht b))
    simp only [Wo, ht, gro]; omega
  | .th a b => by
    have := Wo_ht a; have := Wo_ht b
    have := gro_mono (Nat.le_max_left (ht a) (ht b)); have := gro_mono (Nat.le_max_right (ht a) (ht b))
    simp only [Wo, ht, gro]; omega
  | .sd a b => by
    have := Wo_ht a; have := Wo_ht b
    have := gro_mono (Nat.le_max_left (ht a) (ht b)); have := gro_mono (Nat.le_max_right (ht a) (ht b))
    have := Bh_ht (Wo a) (Wo b)
    simp only [Wo, ht, gro]; omega
theorem L_Bh (w : W) (f : Sn) : ∀ (s : Sn), free s → ∀ (h : List Nat) (p : Nat), L w (Bh f s) h p = (!L w f h p || L w s (h.filter fun q => L w f h q) p)
  | .nm x, _, h, p => by simp only [Bh, L]
  | .fl, _, h, p => by simp only [Bh, L]
  | .nt a, q, h, p => by
    simp only [Bh, L, L_Bh w f a q h p]
    cases L w f h p <;> simp
  | .an a b, q, h, p => by
    simp only [Bh, L, L_Bh w f a q.1 h p, L_Bh w f b q.2 h p]
    cases L w f h p <;> simp
  | .or a b, q, h, p => by
    simp only [Bh, L, L_Bh w f a q.1 h p, L_Bh w f b q.2 h p]
    cases L w f h p <;> simp
  | .th a b, q, h, p => by
    simp only [Bh, L, L_Bh w f a q.1 h p, L_Bh w f b q.2 h p]
    cases L w f h p <;> simp
  | .bx a, q, h, p => by
    have ih := L_Bh w f a q h
    show (!L w f h p || L w (.bx (Bh f a)) h p) = _
    congr 1
    rw [Bool.eq_iff_iff, L_bx, L_bx]
    constructor
    · intro k j hj hm
      obtain ⟨m1, m2⟩ := List.mem_filter.mp hm
      have := k j hj m1
      rw [ih j, m2] at this
      simpa using this
    · intro k j hj hm
      rw [ih j]
      cases hc : L w f h j with
      | false => rfl
      | true => simp [k j hj (List.mem_filter.mpr ⟨hm, hc⟩)]
  | .my a, q, h, p => by
    have ih := L_Bh w f a q h
    show (!L w f h p || L w (.my (.an f (Bh f a))) h p) = _
    congr 1
    rw [Bool.eq_iff_iff, L_my, L_my]
    constructor
    · rintro ⟨j, hj, hm, hl⟩
      simp only [L, Bool.and_eq_true] at hl
      obtain ⟨l1, l2⟩ := hl
      rw [ih j, l1] at l2
      exact ⟨j, hj, List.mem_filter.mpr ⟨hm, l1⟩, by simpa using l2⟩
    · rintro ⟨j, hj, hm, hl⟩
      obtain ⟨m1, m2⟩ := List.mem_filter.mp hm
      refine ⟨j, hj, m1, ?_⟩
      simp only [L, Bool.and_eq_true]
      rw [ih j, m2, hl]; simp
theorem L_Wo (w : W) : ∀ (s : Sn) (h : List Nat) (p : Nat), L w (Wo s) h p = L w s h p
  | .nm x, h, p => rfl
  | .fl, h, p => rfl
  | .nt a, h, p => by simp only [Wo, L, L_Wo w a]
  | .bx a, h, p => by simp only [Wo, L, L_Wo w a]
  | .my a, h, p => by simp only [Wo, L, L_Wo w a]
  | .an a b, h, p => by simp only [Wo, L, L_Wo w a, L_Wo w b]
  | .or a b, h, p => by simp only [Wo, L, L_Wo w a, L_Wo w b]
  | .th a b, h, p => by simp only [Wo, L, L_Wo w a, L_Wo w b]
  | .sd a b, h, p => by
    simp only [Wo, L]
    rw [L_Bh w _ _ (Wo_free b)]
    simp only [L_Wo w a, L_Wo w b]

theorem tyD_t (x : List PyData) : isiD "tuple" (.tuple x) = true := rfl
theorem kids_0 {k : Str} (h : (k == "name") = false) : S_kids_of [.d (.tuple [.str k])] = some (.tuple []) := by
  unfold S_kids_of F_kids_of
  walk_at "evh"
theorem kids_n {x : PyData} : S_kids_of [.d (.tuple [.str "name", x])] = some (.tuple []) := by
  unfold S_kids_of F_kids_of
  walk_at "evh"
theorem kids_1 {k : Str} {x : PyData} (h : (k == "name") = false) : S_kids_of [.d (.tuple [.str k, x])] = some (.tuple [x]) := by
  unfold S_kids_of F_kids_of
  walk_at "evh"
theorem kids_2 {k : Str} {x y : PyData} (h : (k == "name") = false) : S_kids_of [.d (.tuple [.str k, x, y])] = some (.tuple [x, y]) := by
  unfold S_kids_of F_kids_of
  walk_at "evh"
theorem bh_name {kf b : List Ag → Option PyData} {f x : PyData} : semP 2 5 (F_behind kf b) [.d f, .d (.tuple [.str "name", x])] = some (.tuple [.str "then", f, .tuple [.str "name", x]]) := by
  unfold F_behind
  walk_at "evh"
theorem bh_false {kf b : List Ag → Option PyData} {f : PyData} : semP 2 5 (F_behind kf b) [.d f, .d (.tuple [.str "false"])] = some (.tuple [.str "then", f, .tuple [.str "false"]]) := by
  unfold F_behind
  walk_at "evh"
theorem bh_may {kf b : List Ag → Option PyData} {f x x' : PyData} (hk : kf [.d (.tuple [.str "may", x])] = some (.tuple [x])) (hx : b [.d f, .d x] = some x') : semP 2 5 (F_behind kf b) [.d f, .d (.tuple [.str "may", x])] = some (.tuple [.str "then", f, .tuple [.str "may", .tuple [.str "and", f, x']]]) := by
  unfold F_behind
  walk_at "evh"
theorem bh_not {kf b : List Ag → Option PyData} {f x x' : PyData} (hk : kf [.d (.tuple [.str "not", x])] = some (.tuple [x])) (hx : b [.d f, .d x] = some x') : semP 2 5 (F_behind kf b) [.d f, .d (.tuple [.str "not", x])] = some (.tuple [.str "then", f, .tuple [.str "not", x']]) := by
  unfold F_behind
  walk_at "evh"
theorem bh_box {kf b : List Ag → Option PyData} {f x x' : PyData} (hk : kf [.d (.tuple [.str "box", x])] = some (.tuple [x])) (hx : b [.d f, .d x] = some x') : semP 2 5 (F_behind kf b) [.d f, .d (.tuple [.str "box", x])] = some (.tuple [.str "then", f, .tuple [.str "box", x']]) := by
  unfold F_behind
  walk_at "evh"
theorem bh_and {kf b : List Ag → Option PyData} {f x y x' y' : PyData} (hk : kf [.d (.tuple [.str "and", x, y])] = some (.tuple [x, y])) (hx : b [.d f, .d x] = some x') (hy : b [.d f, .d y] = some y') : semP 2 5 (F_behind kf b) [.d f, .d (.tuple [.str "and", x, y])] = some (.tuple [.str "and", x', y']) := by
  unfold F_behind
  walk_at "evh"
theorem bh_or {kf b : List Ag → Option PyData} {f x y x' y' : PyData} (hk : kf [.d (.tuple [.str "or", x, y])] = some (.tuple [x, y])) (hx : b [.d f, .d x] = some x') (hy : b [.d f, .d y] = some y') : semP 2 5 (F_behind kf b) [.d f, .d (.tuple [.str "or", x, y])] = some (.tuple [.str "or", x', y']) := by
  unfold F_behind
  walk_at "evh"
theorem bh_then {kf b : List Ag → Option PyData} {f x y x' y' : PyData} (hk : kf [.d (.tuple [.str "then", x, y])] = some (.tuple [x, y])) (hx : b [.d f, .d x] = some x') (hy : b [.d f, .d y] = some y') : semP 2 5 (F_behind kf b) [.d f, .d (.tuple [.str "then", x, y])] = some (.tuple [.str "then", x', y']) := by
  unfold F_behind
  walk_at "evh"
theorem behind_ok (f : Sn) : ∀ n s, free s → ht s < n → S_behind n [.d (enc f), .d (enc s)] = some (enc (Bh f s)) := by
  intro n
  induction n with
  | zero => intro s _ h; omega
  | succ n ih =>
    intro s hf hn
    rw [S_behind]
    cases s with
    | nm x => exact bh_name
    | fl => exact bh_false
    | nt a => exact bh_not (kids_1 (by decide +kernel)) (ih a hf (by simp only [ht] at hn; omega))
    | bx a => exact bh_box (kids_1 (by decide +kernel)) (ih a hf (by simp only [ht] at hn; omega))
    | my a => exact bh_may (kids_1 (by decide +kernel)) (ih a hf (by simp only [ht] at hn; omega))
    | an a b => exact bh_and (kids_2 (by decide +kernel)) (ih a hf.1 (by simp only [ht] at hn; omega)) (ih b hf.2 (by simp only [ht] at hn; omega))
    | or a b => exact bh_or (kids_2 (by decide +kernel)) (ih a hf.1 (by simp only [ht] at hn; omega)) (ih b hf.2 (by simp only [ht] at hn; omega))
    | th a b => exact bh_then (kids_2 (by decide +kernel)) (ih a hf.1 (by simp only [ht] at hn; omega)) (ih b hf.2 (by simp only [ht] at hn; omega))
    | sd a b => exact hf.elim
theorem wo_name {kf wf b : List Ag → Option PyData} {x : PyData} (hk : kf [.d (.tuple [.str "name", x])] = some (.tuple [])) : semP 1 3 (F_without_said kf wf b) [.d (.tuple [.str "name", x])] = some (.tuple [.str "name", x]) := by
  unfold F_without_said
  walk_at "evh"
theorem wo_false {kf wf b : List Ag → Option PyData} (hk : kf [.d (.tuple [.str "false"])] = some (.tuple [])) : semP 1 3 (F_without_said kf wf b) [.d (.tuple [.str "false"])] = some (.tuple [.str "false"]) := by
  unfold F_without_said
  have e : dAdd (.tuple [.str "false"]) (.tuple []) = some (.tuple [.str "false"]) := dAdd_x sl1
  walk_at "evh"
theorem wo_said {kf wf b : List Ag → Option PyData} {x y x' y' z : PyData} (hk : kf [.d (.tuple [.str "said", x, y])] = some (.tuple [x, y])) (hx : wf [.d x] = some x') (hy : wf [.d y] = some y') (hb : b [.d x', .d y'] = some z) : semP 1 3 (F_without_said kf wf b) [.d (.tuple [.str "said", x, y])] = some z := by
  unfold F_without_said
  walk_at "evh"
theorem wo_not {kf wf b : List Ag → Option PyData} {x x' : PyData} (hk : kf [.d (.tuple [.str "not", x])] = some (.tuple [x])) (hx : wf [.d x] = some x') : semP 1 3 (F_without_said kf wf b) [.d (.tuple [.str "not", x])] = some (.tuple [.str "not", x']) := by
  unfold F_without_said
  have e : dAdd (.tuple [.str "not"]) (.tuple [x']) = some (.tuple [.str "not", x']) := dAdd_x sl2
  walk_at "evh"
theorem wo_box {kf wf b : List Ag → Option PyData} {x x' : PyData} (hk : kf [.d (.tuple [.str "box", x])] = some (.tuple [x])) (hx : wf [.d x] = some x') : semP 1 3 (F_without_said kf wf b) [.d (.tuple [.str "box", x])] = some (.tuple [.str "box", x']) := by
  unfold F_without_said
  have e : dAdd (.tuple [.str "box"]) (.tuple [x']) = some (.tuple [.str "box", x']) := dAdd_x sl2
  walk_at "evh"
theorem wo_may {kf wf b : List Ag → Option PyData} {x x' : PyData} (hk : kf [.d (.tuple [.str "may", x])] = some (.tuple [x])) (hx : wf [.d x] = some x') : semP 1 3 (F_without_said kf wf b) [.d (.tuple [.str "may", x])] = some (.tuple [.str "may", x']) := by
  unfold F_without_said
  have e : dAdd (.tuple [.str "may"]) (.tuple [x']) = some (.tuple [.str "may", x']) := dAdd_x sl2
  walk_at "evh"
theorem wo_and {kf wf b : List Ag → Option PyData} {x y x' y' : PyData} (hk : kf [.d (.tuple [.str "and", x, y])] = some (.tuple [x, y])) (hx : wf [.d x] = some x') (hy : wf [.d y] = some y') : semP 1 3 (F_without_said kf wf b) [.d (.tuple [.str "and", x, y])] = some (.tuple [.str "and", x', y']) := by
  unfold F_without_said
  have e : dAdd (.tuple [.str "and"]) (.tuple [x', y']) = some (.tuple [.str "and", x', y']) := dAdd_x sl3
  walk_at "evh"
theorem wo_or {kf wf b : List Ag → Option PyData} {x y x' y' : PyData} (hk : kf [.d (.tuple [.str "or", x, y])] = some (.tuple [x, y])) (hx : wf [.d x] = some x') (hy : wf [.d y] = some y') : semP 1 3 (F_without_said kf wf b) [.d (.tuple [.str "or", x, y])] = some (.tuple [.str "or", x', y']) := by
  unfold F_without_said
  have e : dAdd (.tuple [.str "or"]) (.tuple [x', y']) = some (.tuple [.str "or", x', y']) := dAdd_x sl3
  walk_at "evh"
theorem wo_then {kf wf b : List Ag → Option PyData} {x y x' y' : PyData} (hk : kf [.d (.tuple [.str "then", x, y])] = some (.tuple [x, y])) (hx : wf [.d x] = some x') (hy : wf [.d y] = some y') : semP 1 3 (F_without_said kf wf b) [.d (.tuple [.str "then", x, y])] = some (.tuple [.str "then", x', y']) := by
  unfold F_without_said
  have e : dAdd (.tuple [.str "then"]) (.tuple [x', y']) = some (.tuple [.str "then", x', y']) := dAdd_x sl3
  walk_at "evh"
theorem without_ok : ∀ n s, ht s < n → gro (ht s) < 64 → S_without_said n [.d (enc s)] = some (enc (Wo s)) := by
  intro n
  induction n with
  | zero => intro s h; omega
  | succ n ih =>
    intro s hn hg
    rw [S_without_said]
    cases s with
    | nm x => exact wo_name kids_n
    | fl => exact wo_false (kids_0 (by decide +kernel))
    | nt a => simp only [ht, gro] at hn hg; exact wo_not (kids_1 (by decide +kernel)) (ih a (by omega) (by omega))
    | bx a => simp only [ht, gro] at hn hg; exact wo_box (kids_1 (by decide +kernel)) (ih a (by omega) (by omega))
    | my a => simp only [ht, gro] at hn hg; exact wo_may (kids_1 (by decide +kernel)) (ih a (by omega) (by omega))
    | an a b =>
      simp only [ht, gro] at hn hg
      have := gro_mono (Nat.le_max_left (ht a) (ht b)); have := gro_mono (Nat.le_max_right (ht a) (ht b))
      exact wo_and (kids_2 (by decide +kernel)) (ih a (by omega) (by omega)) (ih b (by omega) (by omega))
    | or a b =>
      simp only [ht, gro] at hn hg
      have := gro_mono (Nat.le_max_left (ht a) (ht b)); have := gro_mono (Nat.le_max_right (ht a) (ht b))
      exact wo_or (kids_2 (by decide +kernel)) (ih a (by omega) (by omega)) (ih b (by omega) (by omega))
    | th a b =>
      simp only [ht, gro] at hn hg
      have := gro_mono (Nat.le_max_left (ht a) (ht b)); have := gro_mono (Nat.le_max_right (ht a) (ht b))
      exact wo_then (kids_2 (by decide +kernel)) (ih a (by omega) (by omega)) (ih b (by omega) (by omega))
    | sd a b =>
      simp only [ht, gro] at hn hg
      have := gro_mono (Nat.le_max_left (ht a) (ht b)); have := gro_mono (Nat.le_max_right (ht a) (ht b))
      have := Wo_ht b
      exact wo_said (kids_2 (by decide +kernel)) (ih a (by omega) (by omega)) (ih b (by omega) (by omega)) (behind_ok (Wo a) 64 (Wo b) (Wo_free b) (by omega))
end K75

set_option Elab.async false
set_option linter.all false
set_option maxRecDepth 100000
set_option maxHeartbeats 4000000
namespace K75
open PySem PySem.Spec L2 DL
local macro_rules | `(tactic| walk_at "ev0") => `(tactic| simp only [enter, List.length_cons, List.length_nil, List.replicate, List.cons_append, List.nil_append, sSeq, Nat.zero_add, Nat.reduceAdd, Nat.reduceSub])
local macro_rules | `(tactic| walk_at "ev") => `(tactic| try simp only [semP, semPN, semG, semGN, enter, outR, List.length_cons, List.length_nil, List.replicate, List.cons_append, List.nil_append, sSeq, sIf, sRet, sRetN, sRetO, sSkip, sSetH, sSet, sSetN, sAsgH, sAsg, sApp, sAppH, sDo, hide_nil, hide, hideAux, bName, bTup, bCons, bNil, fVar, fC, f1, f2, fIf, fB, fAnd, fOr, fNot, fAndV, fOrV, fNotV, fN, fTup, fLst, fNil, fCons, fConsR, fSl, fSlL, fPart, fB1, fB1N, fCall, fCallP, fCallPN, fCallN, fItems, wipeE, dSl, cut_1, fSl, fPart, fRange1, dItems, mb_some, mb_none, mp_some, mp_none, agD, Option.map_some, Option.map_none, Option.bind_some, d1, d2, l1, dLen1, dInt1, dAbs1, dTuple1, dIx_t, dIx_l, dEq_int, dEq_np, imm_np, immL_nps, immL_bools, immL_strs, dEq_str, dNe_int, dNe_str, dEq_bool, dNe_bool, dGe_int, dGt_int, dLt_int, dLe_int, dAdd_int, dSub_int, dAddI_int, imm, immL, dIn_str2, dIn_str3, sq_name_name, sq_name_false, sq_name_said, sq_name_box, sq_name_may, sq_name_not, sq_name_and, sq_name_or, sq_name_then, sq_false_name, sq_false_false, sq_false_said, sq_false_box, sq_false_may, sq_false_not, sq_false_and, sq_false_or, sq_false_then, sq_said_name, sq_said_false, sq_said_said, sq_said_box, sq_said_may, sq_said_not, sq_said_and, sq_said_or, sq_said_then, sq_box_name, sq_box_false, sq_box_said, sq_box_box, sq_box_may, sq_box_not, sq_box_and, sq_box_or, sq_box_then, sq_may_name, sq_may_false, sq_may_said, sq_may_box, sq_may_may, sq_may_not, sq_may_and, sq_may_or, sq_may_then, sq_not_name, sq_not_false, sq_not_said, sq_not_box, sq_not_may, sq_not_not, sq_not_and, sq_not_or, sq_not_then, sq_and_name, sq_and_false, sq_and_said, sq_and_box, sq_and_may, sq_and_not, sq_and_and, sq_and_or, sq_and_then, sq_or_name, sq_or_false, sq_or_said, sq_or_box, sq_or_may, sq_or_not, sq_or_and, sq_or_or, sq_or_then, sq_then_name, sq_then_false, sq_then_said, sq_then_box, sq_then_may, sq_then_not, sq_then_and, sq_then_or, sq_then_then, atI_0, atI_1, atI_2, atI_3, List.getElem?_cons_zero, List.getElem?_cons_succ, List.set_cons_zero, List.set_cons_succ, if_true, if_false, Bool.false_eq_true, reduceIte, decide_true, decide_false, true_and, and_true, and_self, not_true_eq_false, not_false_eq_true, Nat.zero_add, Nat.reduceAdd, Nat.reduceSub, Nat.reduceEqDiff, List.contains_cons, List.contains_nil, Nat.reduceBEq, Bool.or_false, Bool.false_or, Bool.true_or, Bool.or_true, Bool.and_true, Bool.true_and, Bool.not_true, Bool.not_false, fM, dTuple1, sl0, sl1, sl2, sl3, sl4, sl5, sl6, sl7, sl8, sl9, sl10, sl11, sl12, Nat.reduceLeDiff])
local macro_rules | `(tactic| walk_at "evh") => `(tactic| try simp only [semP, semPN, semG, semGN, enter, outR, List.length_cons, List.length_nil, List.replicate, List.cons_append, List.nil_append, sSeq, sIf, sRet, sRetN, sRetO, sSkip, sSetH, sSet, sSetN, sAsgH, sAsg, sApp, sAppH, sDo, hide_nil, hide, hideAux, bName, bTup, bCons, bNil, fVar, fC, f1, f2, fIf, fB, fAnd, fOr, fNot, fAndV, fOrV, fNotV, fN, fTup, fLst, fNil, fCons, fConsR, fSl, fSlL, fPart, fB1, fB1N, fCall, fCallP, fCallPN, fCallN, fItems, wipeE, dSl, cut_1, fSl, fPart, fRange1, dItems, mb_some, mb_none, mp_some, mp_none, agD, Option.map_some, Option.map_none, Option.bind_some, d1, d2, l1, dLen1, dInt1, dAbs1, dTuple1, dIx_t, dIx_l, dEq_int, dEq_np, imm_np, immL_nps, immL_bools, immL_strs, dEq_str, dNe_int, dNe_str, dEq_bool, dNe_bool, dGe_int, dGt_int, dLt_int, dLe_int, dAdd_int, dSub_int, dAddI_int, imm, immL, dIn_str2, dIn_str3, sq_name_name, sq_name_false, sq_name_said, sq_name_box, sq_name_may, sq_name_not, sq_name_and, sq_name_or, sq_name_then, sq_false_name, sq_false_false, sq_false_said, sq_false_box, sq_false_may, sq_false_not, sq_false_and, sq_false_or, sq_false_then, sq_said_name, sq_said_false, sq_said_said, sq_said_box, sq_said_may, sq_said_not, sq_said_and, sq_said_or, sq_said_then, sq_box_name, sq_box_false, sq_box_said, sq_box_box, sq_box_may, sq_box_not, sq_box_and, sq_box_or, sq_box_then, sq_may_name, sq_may_false, sq_may_said, sq_may_box, sq_may_may, sq_may_not, sq_may_and, sq_may_or, sq_may_then, sq_not_name, sq_not_false, sq_not_said, sq_not_box, sq_not_may, sq_not_not, sq_not_and, sq_not_or, sq_not_then, sq_and_name, sq_and_false, sq_and_said, sq_and_box, sq_and_may, sq_and_not, sq_and_and, sq_and_or, sq_and_then, sq_or_name, sq_or_false, sq_or_said, sq_or_box, sq_or_may, sq_or_not, sq_or_and, sq_or_or, sq_or_then, sq_then_name, sq_then_false, sq_then_said, sq_then_box, sq_then_may, sq_then_not, sq_then_and, sq_then_or, sq_then_then, atI_0, atI_1, atI_2, atI_3, List.getElem?_cons_zero, List.getElem?_cons_succ, List.set_cons_zero, List.set_cons_succ, if_true, if_false, Bool.false_eq_true, reduceIte, decide_true, decide_false, true_and, and_true, and_self, not_true_eq_false, not_false_eq_true, Nat.zero_add, Nat.reduceAdd, Nat.reduceSub, Nat.reduceEqDiff, List.contains_cons, List.contains_nil, Nat.reduceBEq, Bool.or_false, Bool.false_or, Bool.true_or, Bool.or_true, Bool.and_true, Bool.true_and, Bool.not_true, Bool.not_false, fM, dTuple1, sl0, sl1, sl2, sl3, sl4, sl5, sl6, sl7, sl8, sl9, sl10, sl11, sl12, Nat.reduceLeDiff, *])




theorem lt_name {f : List Ag → Option PyData} {a b t P H x : PyData} {ts : List PyData} {v : Bool} (e : dIx (.tuple ts) P = some t) (e2 : dIn x t = some (.bool v)) : semP 4 12 (F_law_true f) [.d (.tuple [a, b, .tuple ts]), .d H, .d P, .d (.tuple [.str "name", x])] = some (.bool v) := by
  unfold F_law_true
  walk_at "evh"
theorem lt_false {f : List Ag → Option PyData} {W P H : PyData} : semP 4 12 (F_law_true f) [.d W, .d H, .d P, .d (.tuple [.str "false"])] = some (.bool false) := by
  unfold F_law_true
  walk_at "evh"
theorem lt_not {f : List Ag → Option PyData} {W P H x : PyData} {v : Bool} (e : f [.d W, .d H, .d P, .d x] = some (.bool v)) : semP 4 12 (F_law_true f) [.d W, .d H, .d P, .d (.tuple [.str "not", x])] = some (.bool (!v)) := by
  unfold F_law_true
  walk_at "evh"
theorem lt_and {f : List Ag → Option PyData} {W P H x y : PyData} {v u : Bool} (e : f [.d W, .d H, .d P, .d x] = some (.bool v)) (e2 : f [.d W, .d H, .d P, .d y] = some (.bool u)) : semP 4 12 (F_law_true f) [.d W, .d H, .d P, .d (.tuple [.str "and", x, y])] = some (.bool (v && u)) := by
  unfold F_law_true
  walk_at "evh"
  cases v <;> cases u <;> (walk_at "evh") <;> rfl
theorem lt_or {f : List Ag → Option PyData} {W P H x y : PyData} {v u : Bool} (e : f [.d W, .d H, .d P, .d x] = some (.bool v)) (e2 : f [.d W, .d H, .d P, .d y] = some (.bool u)) : semP 4 12 (F_law_true f) [.d W, .d H, .d P, .d (.tuple [.str "or", x, y])] = some (.bool (v || u)) := by
  unfold F_law_true
  walk_at "evh"
  cases v <;> cases u <;> (walk_at "evh") <;> rfl
theorem lt_then {f : List Ag → Option PyData} {W P H x y : PyData} {v u : Bool} (e : f [.d W, .d H, .d P, .d x] = some (.bool v)) (e2 : f [.d W, .d H, .d P, .d y] = some (.bool u)) : semP 4 12 (F_law_true f) [.d W, .d H, .d P, .d (.tuple [.str "then", x, y])] = some (.bool (!v || u)) := by
  unfold F_law_true
  walk_at "evh"
  cases v <;> cases u <;> (walk_at "evh") <;> rfl
theorem lt_said {f : List Ag → Option PyData} {W P x y : PyData} {hs ls : List PyData} {v u : Bool} (e : f [.d W, .d (.list hs), .d P, .d x] = some (.bool v))
    (e1 : fComp (G := G0) (fItems (fVar 1)) (bName 9) (fB (fCallP f (fCons (fVar 0) (fCons (fVar 1) (fCons (fVar 9) (fCons (f2 dIx (fVar 3) (fC (.int 1))) fNil)))))) (fVar 9) [9] [.d W, .d (.list hs), .d P, .d (.tuple [.str "said", x, y]), .d (.str "said"), .d (.bool v), .no, .no, .no, .no, .no, .no] () = some (ls, ())) (e2 : v = true → f [.d W, .d (.list ls), .d P, .d y] = some (.bool u)) : semP 4 12 (F_law_true f) [.d W, .d (.list hs), .d P, .d (.tuple [.str "said", x, y])] = some (.bool (!v || u)) := by
  unfold F_law_true
  cases v with
  | false => 
    walk_at "evh"
  | true =>
    have e3 := e2 rfl
    clear e2
    walk_at "evh"
theorem lt_box {f : List Ag → Option PyData} {W P H x : PyData} {ls : List PyData} {v : Bool}
    (e1 : fComp (G := G0) (fItems (f2 dIx (fVar 0) (fC (.int 1)))) (bTup 2 (bCons (bName 10) (bCons (bName 11) bNil))) (fAnd (fB (f2 dEq (fVar 10) (fVar 2))) (fB (f2 dIn (fVar 11) (fVar 1)))) (fCallP f (fCons (fVar 0) (fCons (fVar 1) (fCons (fVar 11) (fCons (f2 dIx (fVar 3) (fC (.int 1))) fNil))))) [10, 11] [.d W, .d H, .d P, .d (.tuple [.str "box", x]), .d (.str "box"), .no, .no, .no, .no, .no, .no, .no] () = some (ls, ())) (e2 : dNotIn (.bool false) (.list ls) = some (.bool v)) : semP 4 12 (F_law_true f) [.d W, .d H, .d P, .d (.tuple [.str "box", x])] = some (.bool v) := by
  unfold F_law_true
  walk_at "evh"
theorem lt_may {f : List Ag → Option PyData} {W P H x : PyData} {ls : List PyData} {v : Bool}
    (e1 : fComp (G := G0) (fItems (f2 dIx (fVar 0) (fC (.int 1)))) (bTup 2 (bCons (bName 10) (bCons (bName 11) bNil))) (fAnd (fB (f2 dEq (fVar 10) (fVar 2))) (fB (f2 dIn (fVar 11) (fVar 1)))) (fCallP f (fCons (fVar 0) (fCons (fVar 1) (fCons (fVar 11) (fCons (f2 dIx (fVar 3) (fC (.int 1))) fNil))))) [10, 11] [.d W, .d H, .d P, .d (.tuple [.str "may", x]), .d (.str "may"), .no, .no, .no, .no, .no, .no, .no] () = some (ls, ())) (e2 : dIn (.bool true) (.list ls) = some (.bool v)) : semP 4 12 (F_law_true f) [.d W, .d H, .d P, .d (.tuple [.str "may", x])] = some (.bool v) := by
  unfold F_law_true
  walk_at "evh"

theorem lt_cs {f : List Ag → Option PyData} {w : W} {h : List Nat} {p : Nat} {a b : Sn} {v : Bool} {t : Nat → Bool} (e : ∀ q ∈ h, f [.d (encW w), .d (.list (h.map np)), .d (np q), .d (enc a)] = some (.bool (t q))) :
    fComp (G := G0) (fItems (fVar 1)) (bName 9) (fB (fCallP f (fCons (fVar 0) (fCons (fVar 1) (fCons (fVar 9) (fCons (f2 dIx (fVar 3) (fC (.int 1))) fNil)))))) (fVar 9) [9] [.d (encW w), .d (.list (h.map np)), .d (np p), .d (.tuple [.str "said", enc a, enc b]), .d (.str "said"), .d (.bool v), .no, .no, .no, .no, .no, .no] () = some ((h.filter t).map np, ()) := by
  refine fComp_of np t np rfl fun q hq => ⟨[.d (encW w), .d (.list (h.map np)), .d (np p), .d (.tuple [.str "said", enc a, enc b]), .d (.str "said"), .d (.bool v), .no, .no, .no, .d (np q), .no, .no], rfl, ?_, fun _ => rfl⟩
  have e' := e q hq
  clear e
  generalize encW w = x at e' ⊢
  generalize enc a = y at e' ⊢
  generalize enc b = z
  generalize List.map np h = l at e' ⊢
  walk_at "evh"
theorem lt_cb {f : List Ag → Option PyData} {w : W} {h : List Nat} {p : Nat} {a : Sn} {k : Str} {t : Nat → Bool} (e : ∀ q ∈ w.ar, q.2 ∈ h → f [.d (encW w), .d (.list (h.map np)), .d (np q.2), .d (enc a)] = some (.bool (t q.2))) :
    fComp (G := G0) (fItems (f2 dIx (fVar 0) (fC (.int 1)))) (bTup 2 (bCons (bName 10) (bCons (bName 11) bNil))) (fAnd (fB (f2 dEq (fVar 10) (fVar 2))) (fB (f2 dIn (fVar 11) (fVar 1)))) (fCallP f (fCons (fVar 0) (fCons (fVar 1) (fCons (fVar 11) (fCons (f2 dIx (fVar 3) (fC (.int 1))) fNil))))) [10, 11] [.d (encW w), .d (.list (h.map np)), .d (np p), .d (.tuple [.str k, enc a]), .d (.str k), .no, .no, .no, .no, .no, .no, .no] () = some (((w.ar.filter fun q => decide (q.1 = p) && decide (q.2 ∈ h)).map fun q => t q.2).map .bool, ()) := by
  have r : (fItems (f2 dIx (fVar 0) (fC (.int 1))) : Fl G0) [.d (encW w), .d (.list (h.map np)), .d (np p), .d (.tuple [.str k, enc a]), .d (.str k), .no, .no, .no, .no, .no, .no, .no] () = some (w.ar.map pr, ()) := by
    unfold encW
    walk_at "ev"
  rw [List.map_map]
  refine fComp_of pr _ ((PyData.bool) ∘ fun q => t q.2) r fun q hq => ⟨[.d (encW w), .d (.list (h.map np)), .d (np p), .d (.tuple [.str k, enc a]), .d (.str k), .no, .no, .no, .no, .no, .d (np q.1), .d (np q.2)], rfl, ?_, fun hc => ?_⟩
  · have i1 := dEq_np q.1 p
    have i2 := dIn_npL q.2 h
    generalize encW w = x
    generalize enc a = y
    generalize PyData.list (h.map np) = l at i2 ⊢
    walk_at "evh"
    cases decide (q.1 = p) <;> rfl
  · obtain ⟨h1, h2⟩ := Bool.and_eq_true_iff.mp hc
    have e' := e q hq (of_decide_eq_true h2)
    clear e
    generalize encW w = x at e' ⊢
    generalize enc a = y at e' ⊢
    generalize PyData.list (h.map np) = l at e' ⊢
    walk_at "evh"
    rfl
theorem ltrue_ok {w : W} (hw : WF w) : ∀ n s h p, (∀ q ∈ h, q < w.n) → p < w.n → ht s < n → S_law_true n [.d (encW w), .d (.list (h.map np)), .d (np p), .d (enc s)] = some (.bool (L w s h p)) := by
  intro n
  induction n with
  | zero => intro s h p _ _ hn; omega
  | succ n ih =>
    intro s h p hh hp hn
    rw [S_law_true]
    cases s with
    | nm x => exact lt_name (lookT w hw hp) (hasT x _)
    | fl => exact lt_false
    | nt a => exact lt_not (ih a h p hh hp (by simp only [ht] at hn; omega))
    | an a b => exact lt_and (ih a h p hh hp (by simp only [ht] at hn; omega)) (ih b h p hh hp (by simp only [ht] at hn; omega))
    | or a b => exact lt_or (ih a h p hh hp (by simp only [ht] at hn; omega)) (ih b h p hh hp (by simp only [ht] at hn; omega))
    | th a b => exact lt_then (ih a h p hh hp (by simp only [ht] at hn; omega)) (ih b h p hh hp (by simp only [ht] at hn; omega))
    | sd a b =>
      refine lt_said (ih a h p hh hp (by simp only [ht] at hn; omega)) (lt_cs (t := fun q => L w a h q) fun q hq => ih a h q hh (hh q hq) (by simp only [ht] at hn; omega)) fun _ => ?_
      exact ih b (h.filter fun q => L w a h q) p (fun q hq => hh q (List.mem_filter.mp hq).1) hp (by simp only [ht] at hn; omega)
    | bx a => exact lt_box (lt_cb (t := fun q => L w a h q) fun q hq hm => ih a h q.2 hh (hh _ hm) (by simp only [ht] at hn; omega)) (dNotIn_falseL _)
    | my a => exact lt_may (lt_cb (t := fun q => L w a h q) fun q hq hm => ih a h q.2 hh (hh _ hm) (by simp only [ht] at hn; omega)) (dIn_trueL _)
end K75

set_option Elab.async false
set_option linter.all false
set_option maxRecDepth 100000
set_option maxHeartbeats 4000000
namespace K75
open PySem PySem.Spec L2 DL
local macro_rules | `(tactic| walk_at "ev0") => `(tactic| simp only [enter, List.length_cons, List.length_nil, List.replicate, List.cons_append, List.nil_append, sSeq, Nat.zero_add, Nat.reduceAdd, Nat.reduceSub])
local macro_rules | `(tactic| walk_at "ev") => `(tactic| try simp only [semP, semPN, semG, semGN, enter, outR, List.length_cons, List.length_nil, List.replicate, List.cons_append, List.nil_append, sSeq, sIf, sRet, sRetN, sRetO, sSkip, sSetH, sSet, sSetN, sAsgH, sAsg, sApp, sAppH, sDo, hide_nil, hide, hideAux, bName, bTup, bCons, bNil, fVar, fC, f1, f2, fIf, fB, fAnd, fOr, fNot, fAndV, fOrV, fNotV, fN, fTup, fLst, fNil, fCons, fConsR, fSl, fSlL, fPart, fB1, fB1N, fCall, fCallP, fCallPN, fCallN, fItems, wipeE, dSl, cut_1, fSl, fPart, fRange1, dItems, mb_some, mb_none, mp_some, mp_none, agD, Option.map_some, Option.map_none, Option.bind_some, d1, d2, l1, dLen1, dInt1, dAbs1, dTuple1, dIx_t, dIx_l, dEq_int, dEq_np, imm_np, immL_nps, immL_bools, immL_strs, dEq_str, dNe_int, dNe_str, dEq_bool, dNe_bool, dGe_int, dGt_int, dLt_int, dLe_int, dAdd_int, dSub_int, dAddI_int, imm, immL, dIn_str2, dIn_str3, sq_name_name, sq_name_false, sq_name_said, sq_name_box, sq_name_may, sq_name_not, sq_name_and, sq_name_or, sq_name_then, sq_false_name, sq_false_false, sq_false_said, sq_false_box, sq_false_may, sq_false_not, sq_false_and, sq_false_or, sq_false_then, sq_said_name, sq_said_false, sq_said_said, sq_said_box, sq_said_may, sq_said_not, sq_said_and, sq_said_or, sq_said_then, sq_box_name, sq_box_false, sq_box_said, sq_box_box, sq_box_may, sq_box_not, sq_box_and, sq_box_or, sq_box_then, sq_may_name, sq_may_false, sq_may_said, sq_may_box, sq_may_may, sq_may_not, sq_may_and, sq_may_or, sq_may_then, sq_not_name, sq_not_false, sq_not_said, sq_not_box, sq_not_may, sq_not_not, sq_not_and, sq_not_or, sq_not_then, sq_and_name, sq_and_false, sq_and_said, sq_and_box, sq_and_may, sq_and_not, sq_and_and, sq_and_or, sq_and_then, sq_or_name, sq_or_false, sq_or_said, sq_or_box, sq_or_may, sq_or_not, sq_or_and, sq_or_or, sq_or_then, sq_then_name, sq_then_false, sq_then_said, sq_then_box, sq_then_may, sq_then_not, sq_then_and, sq_then_or, sq_then_then, atI_0, atI_1, atI_2, atI_3, List.getElem?_cons_zero, List.getElem?_cons_succ, List.set_cons_zero, List.set_cons_succ, if_true, if_false, Bool.false_eq_true, reduceIte, decide_true, decide_false, true_and, and_true, and_self, not_true_eq_false, not_false_eq_true, Nat.zero_add, Nat.reduceAdd, Nat.reduceSub, Nat.reduceEqDiff, List.contains_cons, List.contains_nil, Nat.reduceBEq, Bool.or_false, Bool.false_or, Bool.true_or, Bool.or_true, Bool.and_true, Bool.true_and, Bool.not_true, Bool.not_false, fM, dTuple1, sl0, sl1, sl2, sl3, sl4, sl5, sl6, sl7, sl8, sl9, sl10, sl11, sl12, Nat.reduceLeDiff])
local macro_rules | `(tactic| walk_at "evh") => `(tactic| try simp only [semP, semPN, semG, semGN, enter, outR, List.length_cons, List.length_nil, List.replicate, List.cons_append, List.nil_append, sSeq, sIf, sRet, sRetN, sRetO, sSkip, sSetH, sSet, sSetN, sAsgH, sAsg, sApp, sAppH, sDo, hide_nil, hide, hideAux, bName, bTup, bCons, bNil, fVar, fC, f1, f2, fIf, fB, fAnd, fOr, fNot, fAndV, fOrV, fNotV, fN, fTup, fLst, fNil, fCons, fConsR, fSl, fSlL, fPart, fB1, fB1N, fCall, fCallP, fCallPN, fCallN, fItems, wipeE, dSl, cut_1, fSl, fPart, fRange1, dItems, mb_some, mb_none, mp_some, mp_none, agD, Option.map_some, Option.map_none, Option.bind_some, d1, d2, l1, dLen1, dInt1, dAbs1, dTuple1, dIx_t, dIx_l, dEq_int, dEq_np, imm_np, immL_nps, immL_bools, immL_strs, dEq_str, dNe_int, dNe_str, dEq_bool, dNe_bool, dGe_int, dGt_int, dLt_int, dLe_int, dAdd_int, dSub_int, dAddI_int, imm, immL, dIn_str2, dIn_str3, sq_name_name, sq_name_false, sq_name_said, sq_name_box, sq_name_may, sq_name_not, sq_name_and, sq_name_or, sq_name_then, sq_false_name, sq_false_false, sq_false_said, sq_false_box, sq_false_may, sq_false_not, sq_false_and, sq_false_or, sq_false_then, sq_said_name, sq_said_false, sq_said_said, sq_said_box, sq_said_may, sq_said_not, sq_said_and, sq_said_or, sq_said_then, sq_box_name, sq_box_false, sq_box_said, sq_box_box, sq_box_may, sq_box_not, sq_box_and, sq_box_or, sq_box_then, sq_may_name, sq_may_false, sq_may_said, sq_may_box, sq_may_may, sq_may_not, sq_may_and, sq_may_or, sq_may_then, sq_not_name, sq_not_false, sq_not_said, sq_not_box, sq_not_may, sq_not_not, sq_not_and, sq_not_or, sq_not_then, sq_and_name, sq_and_false, sq_and_said, sq_and_box, sq_and_may, sq_and_not, sq_and_and, sq_and_or, sq_and_then, sq_or_name, sq_or_false, sq_or_said, sq_or_box, sq_or_may, sq_or_not, sq_or_and, sq_or_or, sq_or_then, sq_then_name, sq_then_false, sq_then_said, sq_then_box, sq_then_may, sq_then_not, sq_then_and, sq_then_or, sq_then_then, atI_0, atI_1, atI_2, atI_3, List.getElem?_cons_zero, List.getElem?_cons_succ, List.set_cons_zero, List.set_cons_succ, if_true, if_false, Bool.false_eq_true, reduceIte, decide_true, decide_false, true_and, and_true, and_self, not_true_eq_false, not_false_eq_true, Nat.zero_add, Nat.reduceAdd, Nat.reduceSub, Nat.reduceEqDiff, List.contains_cons, List.contains_nil, Nat.reduceBEq, Bool.or_false, Bool.false_or, Bool.true_or, Bool.or_true, Bool.and_true, Bool.true_and, Bool.not_true, Bool.not_false, fM, dTuple1, sl0, sl1, sl2, sl3, sl4, sl5, sl6, sl7, sl8, sl9, sl10, sl11, sl12, Nat.reduceLeDiff, *])





/-! ### sets of pairs -/
def st (acc : List (Nat × Nat)) (q : Nat × Nat) : List (Nat × Nat) := if acc.getLast? = some q then acc else acc ++ [q]
theorem shp_pr (q : Nat × Nat) : Shp 1 (pr q) := Shp.tup (k := 0) fun y hy => by
  rcases List.mem_cons.mp hy with rfl | hy
  · exact Shp.np _
  · rcases List.mem_cons.mp hy with rfl | hy
    · exact Shp.np _
    · cases hy
theorem shp_prs (qs : List (Nat × Nat)) : Shp 2 (.list (qs.map pr)) := Shp.lst fun y hy => by
  obtain ⟨q, _, rfl⟩ := List.mem_map.mp hy
  exact shp_pr q
theorem eqv_pr (a b : Nat × Nat) : PyData.eqv (pr a) (pr b) = decide (a = b) := by
  unfold pr
  simp only [PyData.eqv, PyData.eqvAll, eqv_np, Bool.and_true]
  rw [Bool.eq_iff_iff]
  simp [Prod.ext_iff]
theorem dNe_pr (a b : Nat × Nat) : dNe (pr a) (pr b) = some (.bool (!decide (a = b))) := by
  rw [dNe_shp (shp_pr a) (by decide) (shp_pr b) (by decide), eqv_pr]
theorem dEq_prs (qs : List (Nat × Nat)) : dEq (.list (qs.map pr)) (.list []) = some (.bool (decide (qs = []))) := by
  rw [dEq_shp (shp_prs qs) (by decide) (Shp.lst (k := 0) (ys := []) (fun y hy => by cases hy)) (by decide), eqv_nilL]
  cases qs <;> simp
def setB : Fst G0 := (sIf (fOr (fB (f2 dEq (fVar 1) (fN (fLst fNil)))) (fB (f2 dNe (f2 dIx (fVar 1) (f2 dSub (fB1 dLen (fCons (fVar 1) fNil)) (fC (.int 1)))) (fVar 2)))) (sApp 1 (fVar 2)) sSkip)
theorem set_nil {X x : PyData} {ls : List PyData} (e : dEq (.list ls) (.list []) = some (.bool true)) (hi : imm x = true) (hl : ls.length < 16777216) : setB [.d X, .d (.list ls), .d x] () = some (.nx [.d X, .d (.list (ls ++ [x])), .d x] ()) := by
  unfold setB
  have hl' : ls.length < sizeLine := by rw [sizeLine_eq]; exact hl
  clear hl
  walk_at "evh"
theorem set_new {X x y : PyData} {ls : List PyData} (e : dEq (.list ls) (.list []) = some (.bool false)) (e1 : atI ls ((ls.length : Int) - 1) = some y) (e2 : dNe y x = some (.bool true)) (hi : imm x = true) (hl : ls.length < 16777216) : setB [.d X, .d (.list ls), .d x] () = some (.nx [.d X, .d (.list (ls ++ [x])), .d x] ()) := by
  unfold setB
  have hl' : ls.length < sizeLine := by rw [sizeLine_eq]; exact hl
  clear hl
  have e0 : dLen1 (.list ls) = some (.int (ls.length : Nat)) := rfl
  walk_at "evh"
theorem set_old {X x y : PyData} {ls : List PyData} (e : dEq (.list ls) (.list []) = some (.bool false)) (e1 : atI ls ((ls.length : Int) - 1) = some y) (e2 : dNe y x = some (.bool false)) : setB [.d X, .d (.list ls), .d x] () = some (.nx [.d X, .d (.list ls), .d x] ()) := by
  unfold setB
  have e0 : dLen1 (.list ls) = some (.int (ls.length : Nat)) := rfl
  walk_at "evh"
theorem atI_last {qs : List (Nat × Nat)} {q : Nat × Nat} (h : qs.getLast? = some q) : atI (qs.map pr) (((qs.map pr).length : Int) - 1) = some (pr q) := by
  rw [List.getLast?_eq_getElem?] at h
  have hl : 0 < qs.length := by
    rcases Nat.eq_zero_or_pos qs.length with z | z
    · rw [List.getElem?_eq_none (by omega)] at h; cases h
    · exact z
  have : ((qs.map pr).length : Int) - 1 = ((qs.length - 1 : Nat) : Int) := by rw [List.length_map]; omega
  rw [this]
  exact atI_map pr h
theorem set_turn {X : PyData} {qs : List (Nat × Nat)} (hl : qs.length < 16777216) (q : Nat × Nat) : setB [.d X, .d (.list (qs.map pr)), .d (pr q)] () = some (.nx [.d X, .d (.list ((st qs q).map pr)), .d (pr q)] ()) := by
  have e := dEq_prs qs
  have hl' : (qs.map pr).length < 16777216 := by rw [List.length_map]; exact hl
  have hm : ((qs ++ [q]).map pr) = qs.map pr ++ [pr q] := by simp
  unfold st
  by_cases h0 : qs = []
  · subst h0
    rw [if_neg (by simp), hm]
    exact set_nil e rfl hl'
  · rw [decide_eq_false h0] at e
    obtain ⟨y, hy⟩ : ∃ y, qs.getLast? = some y := by
      cases z : qs.getLast? with
      | none => exact absurd (List.getLast?_eq_none_iff.mp z) h0
      | some y => exact ⟨y, rfl⟩
    have e1 := atI_last hy
    have e2 := dNe_pr y q
    by_cases hq : y = q
    · subst hq
      rw [if_pos hy]
      exact set_old e e1 (by rw [e2]; simp)
    · rw [if_neg (by rw [hy]; simpa using hq), hm]
      exact set_new e e1 (by rw [e2, decide_eq_false hq]; rfl) rfl hl'
theorem st_len (acc : List (Nat × Nat)) (q : Nat × Nat) : (st acc q).length ≤ acc.length + 1 := by
  unfold st; split
  · omega
  · simp
theorem fold_len : ∀ (qs acc : List (Nat × Nat)), (qs.foldl st acc).length ≤ acc.length + qs.length
  | [], acc => by simp
  | q :: qs, acc => by
    have := fold_len qs (st acc q)
    have := st_len acc q
    simp only [List.foldl_cons, List.length_cons]; omega
theorem set_loop {X : PyData} (qs : List (Nat × Nat)) (hl : qs.length ≤ 1000000) :
    ∃ z, loopF (T := G0.T) (bName 2) setB (qs.map pr) [.d X, .d (.list []), .no] () = some (.nx [.d X, .d (.list ((qs.foldl st []).map pr)), z] ()) := by
  obtain ⟨ρ2, g2, h1, z, rfl⟩ := loopF_inv (T := G0.T) (bd := bName 2) (F := setB) (items := qs.map pr) (ρ := [.d X, .d (.list []), .no]) (g := ())
    (fun i ρ g => ∃ z, ρ = [.d X, .d (.list (((qs.take i).foldl st []).map pr)), z]) (by
      rintro i d ρ g hd ⟨z, rfl⟩
      rw [List.getElem?_map, Option.map_eq_some_iff] at hd
      obtain ⟨q, hq, rfl⟩ := hd
      have := fold_len (qs.take i) []
      have h2 : (qs.take i).length ≤ qs.length := by rw [List.length_take]; omega
      refine ⟨[.d X, .d (.list (((qs.take i).foldl st []).map pr)), .d (pr q)], _, _, rfl, set_turn (by simp only [List.length_nil] at this; omega) q, .d (pr q), ?_⟩
      have : qs.take (i + 1) = qs.take i ++ [q] := by
        rw [List.take_succ, hq]; rfl
      rw [this, List.foldl_append]; rfl) ⟨.no, rfl⟩
  refine ⟨z, ?_⟩
  rw [h1, List.length_map, List.take_length]
theorem set_run {X : PyData} {its fin : List PyData} {z : Ag} (e1 : dSortP X = some its) (e2 : loopF (T := G0.T) (bName 2) setB its [.d X, .d (.list []), .no] () = some (.nx [.d X, .d (.list fin), z] ())) : S_law_set [.d X] = some (.tuple fin) := by
  have e3 : sForH (G := G0) [1] (fItems (fN (fB1N (l1 dSortP) (fCons (fVar 0) fNil)))) (bName 2) setB [.d X, .d (.list []), .no] () = some (.nx [.d X, .d (.list fin), z] ()) := by
    refine (sForH_of (g' := ()) (ds := its) ?_).trans e2
    clear e2
    walk_at "evh"
  clear e2 e1
  unfold S_law_set F_law_set
  show semP 1 3 (sSeq (sSetN 1 (fLst fNil)) (sSeq (sForH [1] (fItems (fN (fB1N (l1 dSortP) (fCons (fVar 0) fNil)))) (bName 2) setB) (sRet (fB1 (d1 dTuple1) (fCons (fVar 1) fNil))))) [.d X] = _
  walk_at "evh"
/-- what a sorted list keeps of its pairs -/
theorem fold_spec : ∀ (qs acc : List (Nat × Nat)), (∀ a ∈ acc, ∀ q ∈ qs, lexLe (iq a) (iq q) = true) → qs.Pairwise (fun a b => lexLe (iq a) (iq b) = true) → acc.Pairwise ltP →
    (qs.foldl st acc).Pairwise ltP ∧ ∀ q ∈ qs.foldl st acc, q ∈ acc ∨ q ∈ qs
  | [], acc, _, _, h => ⟨h, fun q hq => .inl hq⟩
  | q :: qs, acc, h1, h2, h3 => by
    obtain ⟨h4, h5⟩ := List.pairwise_cons.mp h2
    have key : (st acc q).Pairwise ltP ∧ ∀ a ∈ st acc q, a ∈ acc ∨ a = q := by
      unfold st
      split
      · exact ⟨h3, fun a ha => .inl ha⟩
      · rename_i hne
        refine ⟨List.pairwise_append.mpr ⟨h3, List.pairwise_singleton _ _, fun a ha b hb => ?_⟩, fun a ha => ?_⟩
        · have hb' : b = q := by simpa using hb
          subst hb'
          have hle := h1 a ha b List.mem_cons_self
          have ha2 : ltP a b ∨ a = b := by
            unfold lexLe SrtO.lexB iq at hle
            simp only at hle
            by_cases c : (b.1 : Int) = (a.1 : Int)
            · rw [if_pos c] at hle
              have : ¬ ((b.2 : Int) < a.2) := by simpa using hle
              by_cases c2 : a.2 = b.2
              · exact .inr (Prod.ext (by omega) c2)
              · exact .inl (.inr ⟨by omega, by omega⟩)
            · rw [if_neg c] at hle
              have : ¬ ((b.1 : Int) < a.1) := by simpa using hle
              exact .inl (.inl (by omega))
          rcases ha2 with ha2 | rfl
          · exact ha2
          · exfalso
            -- a stands in acc, so the last is not below it
            obtain ⟨i, hi, hi'⟩ := List.getElem_of_mem ha
            cases hl : acc.getLast? with
            | none => rw [List.getLast?_eq_none_iff.mp hl] at ha; cases ha
            | some l =>
              have hlm : l ∈ acc := List.mem_of_getLast? hl
              have hlq := h1 l hlm a List.mem_cons_self
              have hll : a = l ∨ ltP a l := by
                rw [List.getLast?_eq_getElem?] at hl
                obtain ⟨q1, e1⟩ := List.getElem?_eq_some_iff.mp hl
                by_cases c : i = acc.length - 1
                · left; rw [← hi', ← e1]; congr 1
                · right; rw [← hi', ← e1]; exact List.pairwise_iff_getElem.mp h3 _ _ _ _ (by omega)
              rcases hll with rfl | hll
              · exact hne hl
              · unfold lexLe SrtO.lexB iq at hlq
                simp only at hlq
                rcases hll with c | ⟨c, c2⟩
                · have z : ¬ ((a.1 : Int) = (l.1 : Int)) := by omega
                  rw [if_neg z] at hlq
                  have : ¬ ((a.1 : Int) < l.1) := by simpa using hlq
                  omega
                · have z : ((a.1 : Int) = (l.1 : Int)) := by omega
                  rw [if_pos z] at hlq
                  have : ¬ ((a.2 : Int) < l.2) := by simpa using hlq
                  omega
        · rcases List.mem_append.mp ha with ha | ha
          · exact .inl ha
          · exact .inr (by simpa using ha)
    have := fold_spec qs (st acc q) (fun a ha b hb => by
      rcases key.2 a ha with ha | rfl
      · exact h1 a ha b (List.mem_cons_of_mem _ hb)
      · exact h4 b hb) h5 key.1
    refine ⟨this.1, fun a ha => ?_⟩
    rcases this.2 a ha with ha | ha
    · rcases key.2 a ha with ha | rfl
      · exact .inl ha
      · exact .inr List.mem_cons_self
    · exact .inr (List.mem_cons_of_mem _ ha)
theorem fold_id : ∀ (qs acc : List (Nat × Nat)), (acc ++ qs).Pairwise ltP → qs.foldl st acc = acc ++ qs
  | [], acc, _ => by simp
  | q :: qs, acc, h => by
    have hs : st acc q = acc ++ [q] := by
      unfold st
      rw [if_neg]
      intro hl
      have hm : q ∈ acc := List.mem_of_getLast? hl
      have := (List.pairwise_append.mp h).2.2 q hm q List.mem_cons_self
      rcases this with c | ⟨_, c⟩ <;> omega
    rw [List.foldl_cons, hs, fold_id qs (acc ++ [q]) (by rw [List.append_assoc]; exact h), List.append_assoc]; rfl
theorem pD_iq (l : List (Nat × Nat)) : (l.map iq).map pD = l.map pr := by rw [List.map_map]; rfl
theorem set_sorted {qs : List (Nat × Nat)} (h : qs.Pairwise ltP) (hl : qs.length ≤ 1000000) : S_law_set [.d (.list (qs.map pr))] = some (.tuple (qs.map pr)) := by
  obtain ⟨z, hz⟩ := set_loop (X := .list (qs.map pr)) qs hl
  rw [fold_id qs [] h, List.nil_append] at hz
  refine set_run ?_ hz
  have := dSortP_map (qs.map iq)
  rw [sort_id h, pD_iq] at this
  exact this
theorem iq_inj {a b : Nat × Nat} (h : iq a = iq b) : a = b := by
  unfold iq at h
  have h1 := congrArg Prod.fst h
  have h2 := congrArg Prod.snd h
  simp only at h1 h2
  exact Prod.ext (by omega) (by omega)
/-- any list of pairs -/
theorem set_any (qs : List (Nat × Nat)) (hl : qs.length ≤ 1000) : ∃ rs : List (Nat × Nat), S_law_set [.d (.list (qs.map pr))] = some (.tuple (rs.map pr)) ∧ rs.Pairwise ltP ∧ (∀ q ∈ rs, q ∈ qs) ∧ rs.length ≤ 1000 := by
  have hp := List.mergeSort_perm (qs.map iq) lexLe
  obtain ⟨ss, hss⟩ : ∃ ss : List (Nat × Nat), sortP (qs.map iq) = ss.map iq := by
    have : ∀ l : List (Int × Int), (∀ x ∈ l, ∃ q : Nat × Nat, x = iq q) → ∃ ss : List (Nat × Nat), l = ss.map iq := by
      intro l
      induction l with
      | nil => intro _; exact ⟨[], rfl⟩
      | cons x l ih =>
        intro h
        obtain ⟨q, rfl⟩ := h x List.mem_cons_self
        obtain ⟨ss, rfl⟩ := ih fun y hy => h y (List.mem_cons_of_mem _ hy)
        exact ⟨q :: ss, rfl⟩
    refine this _ fun x hx => ?_
    obtain ⟨q, _, rfl⟩ := List.mem_map.mp (hp.mem_iff.mp hx)
    exact ⟨q, rfl⟩
  have hpw : ss.Pairwise fun a b => lexLe (iq a) (iq b) = true := by
    have := List.pairwise_mergeSort (le := lexLe) (fun a b c h1 h2 => by
      unfold lexLe SrtO.lexB at *
      simp only [Bool.not_eq_true'] at *
      split at h1 <;> split at h2 <;> split <;> simp only [decide_eq_false_iff_not] at * <;> omega) (fun a b => by
      unfold lexLe SrtO.lexB
      by_cases c : a.1 = b.1
      · rw [if_pos c.symm, if_pos c]
        by_cases d : b.2 < a.2
        · have : ¬ a.2 < b.2 := by omega
          simp [this]
        · simp [d]
      · rw [if_neg (fun z => c z.symm), if_neg c]
        by_cases d : b.1 < a.1
        · have : ¬ a.1 < b.1 := by omega
          simp [this]
        · simp [d]) (qs.map iq)
    show ss.Pairwise _
    have e : (qs.map iq).mergeSort lexLe = ss.map iq := hss
    rw [e] at this
    exact List.pairwise_map.mp this
  have hlen : ss.length = qs.length := by
    have h1 := hp.length_eq
    have e : (qs.map iq).mergeSort lexLe = ss.map iq := hss
    rw [e, List.length_map, List.length_map] at h1; exact h1
  obtain ⟨z, hz⟩ := set_loop (X := .list (qs.map pr)) ss (by omega)
  obtain ⟨f1, f2⟩ := fold_spec ss [] (fun a ha => by cases ha) hpw List.Pairwise.nil
  refine ⟨ss.foldl st [], set_run ?_ hz, f1, fun q hq => ?_, ?_⟩
  · have := dSortP_map (qs.map iq)
    rw [hss, pD_iq, pD_iq] at this
    exact this
  · rcases f2 q hq with h | h
    · cases h
    · have e : (qs.map iq).mergeSort lexLe = ss.map iq := hss
      rw [e] at hp
      obtain ⟨q', hq', e'⟩ := List.mem_map.mp (hp.mem_iff.mp (List.mem_map_of_mem (f := iq) h))
      rw [← iq_inj e']; exact hq'
  · have := fold_len ss []
    simp only [List.length_nil] at this; omega
end K75

set_option Elab.async false
set_option linter.all false
set_option maxRecDepth 100000
set_option maxHeartbeats 4000000
namespace K75
open PySem PySem.Spec L2 DL
local macro_rules | `(tactic| walk_at "ev0") => `(tactic| simp only [enter, List.length_cons, List.length_nil, List.replicate, List.cons_append, List.nil_append, sSeq, Nat.zero_add, Nat.reduceAdd, Nat.reduceSub])
local macro_rules | `(tactic| walk_at "ev") => `(tactic| try simp only [semP, semPN, semG, semGN, enter, outR, List.length_cons, List.length_nil, List.replicate, List.cons_append, List.nil_append, sSeq, sIf, sRet, sRetN, sRetO, sSkip, sSetH, sSet, sSetN, sAsgH, sAsg, sApp, sAppH, sDo, hide_nil, hide, hideAux, bName, bTup, bCons, bNil, fVar, fC, f1, f2, fIf, fB, fAnd, fOr, fNot, fAndV, fOrV, fNotV, fN, fTup, fLst, fNil, fCons, fConsR, fSl, fSlL, fPart, fB1, fB1N, fCall, fCallP, fCallPN, fCallN, fItems, wipeE, dSl, cut_1, fSl, fPart, ii_tt, ii_st, ii_ss, ii_tn, ii_tb, ii_ti, ii_ts, ii_bn, ii_bb, ii_bi, ii_bs, ii_in, ii_ib, ii_ii, ii_is, isn_n, isn_b, isn_i, isn_s, isn_t, f3, fRange1, dItems, mb_some, mb_none, mp_some, mp_none, agD, Option.map_some, Option.map_none, Option.bind_some, d1, d2, l1, dLen_t, dLen_l, dInt1, dAbs1, dTuple1, dIx_t, dIx_l, dEq_int, dEq_np, imm_np, immL_nps, immL_bools, immL_strs, dEq_str, dNe_int, dNe_str, dEq_bool, dNe_bool, dGe_int, dGt_int, dLt_int, dLe_int, dAdd_int, dSub_int, dAddI_int, imm, immL, dIn_str2, dIn_str3, sq_name_name, sq_name_false, sq_name_said, sq_name_box, sq_name_may, sq_name_not, sq_name_and, sq_name_or, sq_name_then, sq_false_name, sq_false_false, sq_false_said, sq_false_box, sq_false_may, sq_false_not, sq_false_and, sq_false_or, sq_false_then, sq_said_name, sq_said_false, sq_said_said, sq_said_box, sq_said_may, sq_said_not, sq_said_and, sq_said_or, sq_said_then, sq_box_name, sq_box_false, sq_box_said, sq_box_box, sq_box_may, sq_box_not, sq_box_and, sq_box_or, sq_box_then, sq_may_name, sq_may_false, sq_may_said, sq_may_box, sq_may_may, sq_may_not, sq_may_and, sq_may_or, sq_may_then, sq_not_name, sq_not_false, sq_not_said, sq_not_box, sq_not_may, sq_not_not, sq_not_and, sq_not_or, sq_not_then, sq_and_name, sq_and_false, sq_and_said, sq_and_box, sq_and_may, sq_and_not, sq_and_and, sq_and_or, sq_and_then, sq_or_name, sq_or_false, sq_or_said, sq_or_box, sq_or_may, sq_or_not, sq_or_and, sq_or_or, sq_or_then, sq_then_name, sq_then_false, sq_then_said, sq_then_box, sq_then_may, sq_then_not, sq_then_and, sq_then_or, sq_then_then, atI_0, atI_1, atI_2, atI_3, List.getElem?_cons_zero, List.getElem?_cons_succ, List.set_cons_zero, List.set_cons_succ, if_true, if_false, Bool.false_eq_true, reduceIte, decide_true, decide_false, true_and, and_true, and_self, not_true_eq_false, not_false_eq_true, Nat.zero_add, Nat.reduceAdd, Nat.reduceSub, Nat.reduceEqDiff, List.contains_cons, List.contains_nil, Nat.reduceBEq, Bool.or_false, Bool.false_or, Bool.true_or, Bool.or_true, Bool.and_true, Bool.true_and, Bool.not_true, Bool.not_false, fM, dTuple1, sl0, sl1, sl2, sl3, sl4, sl5, sl6, sl7, sl8, sl9, sl10, sl11, sl12, Nat.reduceLeDiff])
local macro_rules | `(tactic| walk_at "evh") => `(tactic| try simp only [semP, semPN, semG, semGN, enter, outR, List.length_cons, List.length_nil, List.replicate, List.cons_append, List.nil_append, sSeq, sIf, sRet, sRetN, sRetO, sSkip, sSetH, sSet, sSetN, sAsgH, sAsg, sApp, sAppH, sDo, hide_nil, hide, hideAux, bName, bTup, bCons, bNil, fVar, fC, f1, f2, fIf, fB, fAnd, fOr, fNot, fAndV, fOrV, fNotV, fN, fTup, fLst, fNil, fCons, fConsR, fSl, fSlL, fPart, fB1, fB1N, fCall, fCallP, fCallPN, fCallN, fItems, wipeE, dSl, cut_1, fSl, fPart, ii_tt, ii_st, ii_ss, ii_tn, ii_tb, ii_ti, ii_ts, ii_bn, ii_bb, ii_bi, ii_bs, ii_in, ii_ib, ii_ii, ii_is, isn_n, isn_b, isn_i, isn_s, isn_t, f3, fRange1, dItems, mb_some, mb_none, mp_some, mp_none, agD, Option.map_some, Option.map_none, Option.bind_some, d1, d2, l1, dLen_t, dLen_l, dInt1, dAbs1, dTuple1, dIx_t, dIx_l, dEq_int, dEq_np, imm_np, immL_nps, immL_bools, immL_strs, dEq_str, dNe_int, dNe_str, dEq_bool, dNe_bool, dGe_int, dGt_int, dLt_int, dLe_int, dAdd_int, dSub_int, dAddI_int, imm, immL, dIn_str2, dIn_str3, sq_name_name, sq_name_false, sq_name_said, sq_name_box, sq_name_may, sq_name_not, sq_name_and, sq_name_or, sq_name_then, sq_false_name, sq_false_false, sq_false_said, sq_false_box, sq_false_may, sq_false_not, sq_false_and, sq_false_or, sq_false_then, sq_said_name, sq_said_false, sq_said_said, sq_said_box, sq_said_may, sq_said_not, sq_said_and, sq_said_or, sq_said_then, sq_box_name, sq_box_false, sq_box_said, sq_box_box, sq_box_may, sq_box_not, sq_box_and, sq_box_or, sq_box_then, sq_may_name, sq_may_false, sq_may_said, sq_may_box, sq_may_may, sq_may_not, sq_may_and, sq_may_or, sq_may_then, sq_not_name, sq_not_false, sq_not_said, sq_not_box, sq_not_may, sq_not_not, sq_not_and, sq_not_or, sq_not_then, sq_and_name, sq_and_false, sq_and_said, sq_and_box, sq_and_may, sq_and_not, sq_and_and, sq_and_or, sq_and_then, sq_or_name, sq_or_false, sq_or_said, sq_or_box, sq_or_may, sq_or_not, sq_or_and, sq_or_or, sq_or_then, sq_then_name, sq_then_false, sq_then_said, sq_then_box, sq_then_may, sq_then_not, sq_then_and, sq_then_or, sq_then_then, atI_0, atI_1, atI_2, atI_3, List.getElem?_cons_zero, List.getElem?_cons_succ, List.set_cons_zero, List.set_cons_succ, if_true, if_false, Bool.false_eq_true, reduceIte, decide_true, decide_false, true_and, and_true, and_self, not_true_eq_false, not_false_eq_true, Nat.zero_add, Nat.reduceAdd, Nat.reduceSub, Nat.reduceEqDiff, List.contains_cons, List.contains_nil, Nat.reduceBEq, Bool.or_false, Bool.false_or, Bool.true_or, Bool.or_true, Bool.and_true, Bool.true_and, Bool.not_true, Bool.not_false, fM, dTuple1, sl0, sl1, sl2, sl3, sl4, sl5, sl6, sl7, sl8, sl9, sl10, sl11, sl12, Nat.reduceLeDiff, *])






theorem left_none {f g : List Ag → Option PyData} {W S : PyData} {hs ls : List PyData} (e0 : fRangeL (G := G0) (f2 dIx (fVar 0) (fC (.int 0))) [.d W, .d S, .no, .no, .no, .no, .no, .no] () = some (hs, ())) (e1 : fComp (G := G0) (fItems (fVar 2)) (bName 5) (fB (fCallP f (fCons (fVar 0) (fCons (fVar 2) (fCons (fVar 5) (fCons (fVar 1) fNil)))))) (fVar 5) [5] [.d W, .d S, .d (.list hs), .no, .no, .no, .no, .no] () = some (ls, ())) (e2 : dEq (.tuple ls) (.tuple []) = some (.bool true)) : semP 2 8 (F_law_left f g) [.d W, .d S] = some .none := by
  unfold F_law_left
  walk_at "evh"
theorem left_some {f g : List Ag → Option PyData} {W S : PyData} {hs ls l1 l2 l3 : List PyData} (e0 : fRangeL (G := G0) (f2 dIx (fVar 0) (fC (.int 0))) [.d W, .d S, .no, .no, .no, .no, .no, .no] () = some (hs, ())) (e1 : fComp (G := G0) (fItems (fVar 2)) (bName 5) (fB (fCallP f (fCons (fVar 0) (fCons (fVar 2) (fCons (fVar 5) (fCons (fVar 1) fNil)))))) (fVar 5) [5] [.d W, .d S, .d (.list hs), .no, .no, .no, .no, .no] () = some (ls, ())) (e2 : dEq (.tuple ls) (.tuple []) = some (.bool false))
    (e3 : fComp (G := G0) (fItems (f2 dIx (fVar 0) (fC (.int 1)))) (bTup 2 (bCons (bName 6) (bCons (bName 7) bNil))) (fAnd (fB (f2 dIn (fVar 6) (fVar 3))) (fB (f2 dIn (fVar 7) (fVar 3)))) (fTup (fCons (fM dIndex (fVar 3) (fCons (fVar 6) fNil)) (fCons (fM dIndex (fVar 3) (fCons (fVar 7) fNil)) fNil))) [6, 7] [.d W, .d S, .d (.list hs), .d (.tuple ls), .no, .no, .no, .no] () = some (l1, ())) (e4 : g [.d (.list l1)] = some (.tuple l3)) (e5 : fComp (G := G0) (fItems (fVar 3)) (bName 5) fYes (f2 dIx (f2 dIx (fVar 0) (fC (.int 2))) (fVar 5)) [5] [.d W, .d S, .d (.list hs), .d (.tuple ls), .d (.tuple l3), .no, .no, .no] () = some (l2, ())) : semP 2 8 (F_law_left f g) [.d W, .d S] = some (.tuple [.tuple [.int ls.length, .tuple l3, .tuple l2], .tuple ls]) := by
  unfold F_law_left
  walk_at "evh"
theorem left_c0 {w : W} (hw : WF w) {S : PyData} : fRangeL (G := G0) (f2 dIx (fVar 0) (fC (.int 0))) [.d (encW w), .d S, .no, .no, .no, .no, .no, .no] () = some ((List.range w.n).map np, ()) := by
  apply range_np (n := w.n) _ (by have := hw.sz; omega)
  unfold encW
  walk_at "ev"
theorem left_c1 {f : List Ag → Option PyData} {w : W} {S : PyData} {h : List Nat} {t : Nat → Bool} (e : ∀ q ∈ h, f [.d (encW w), .d (.list (h.map np)), .d (np q), .d S] = some (.bool (t q))) :
    fComp (G := G0) (fItems (fVar 2)) (bName 5) (fB (fCallP f (fCons (fVar 0) (fCons (fVar 2) (fCons (fVar 5) (fCons (fVar 1) fNil)))))) (fVar 5) [5] [.d (encW w), .d S, .d (.list (h.map np)), .no, .no, .no, .no, .no] () = some ((h.filter t).map np, ()) := by
  refine fComp_of np t np rfl fun q hq => ⟨[.d (encW w), .d S, .d (.list (h.map np)), .no, .no, .d (np q), .no, .no], rfl, ?_, fun _ => rfl⟩
  have e' := e q hq
  clear e
  generalize encW w = x at e' ⊢
  generalize List.map np h = l at e' ⊢
  walk_at "evh"
theorem left_c3 {w : W} {y z : PyData} {ps : List Nat} : fComp (G := G0) (fItems (f2 dIx (fVar 0) (fC (.int 1)))) (bTup 2 (bCons (bName 6) (bCons (bName 7) bNil))) (fAnd (fB (f2 dIn (fVar 6) (fVar 3))) (fB (f2 dIn (fVar 7) (fVar 3)))) (fTup (fCons (fM dIndex (fVar 3) (fCons (fVar 6) fNil)) (fCons (fM dIndex (fVar 3) (fCons (fVar 7) fNil)) fNil))) [6, 7] [.d (encW w), .d y, .d z, .d (.tuple (ps.map np)), .no, .no, .no, .no] () = some ((sub w ps).ar.map pr, ()) := by
  have r : (fItems (f2 dIx (fVar 0) (fC (.int 1))) : Fl G0) [.d (encW w), .d y, .d z, .d (.tuple (ps.map np)), .no, .no, .no, .no] () = some (w.ar.map pr, ()) := by
    unfold encW
    walk_at "ev"
  have := fComp_of (G := G0) (bd := bTup 2 (bCons (bName 6) (bCons (bName 7) bNil))) (ft := fAnd (fB (f2 dIn (fVar 6) (fVar 3))) (fB (f2 dIn (fVar 7) (fVar 3)))) (fe := fTup (fCons (fM dIndex (fVar 3) (fCons (fVar 6) fNil)) (fCons (fM dIndex (fVar 3) (fCons (fVar 7) fNil)) fNil))) (vs := [6, 7]) pr (fun q => decide (q.1 ∈ ps) && decide (q.2 ∈ ps)) (fun q => pr (idx ps q.1, idx ps q.2)) r fun q hq => ⟨[.d (encW w), .d y, .d z, .d (.tuple (ps.map np)), .no, .no, .d (np q.1), .d (np q.2)], rfl, ?_, fun hc => ?_⟩
  · rw [this]
    simp only [sub, List.map_map]
    rfl
  · have i1 := dIn_npT q.1 ps
    have i2 := dIn_npT q.2 ps
    generalize encW w = x
    generalize PyData.tuple (ps.map np) = l at i1 i2 ⊢
    walk_at "evh"
    cases decide (q.1 ∈ ps) <;> rfl
  · obtain ⟨h1, h2⟩ := Bool.and_eq_true_iff.mp hc
    have i1 := dIndex_np (of_decide_eq_true h1)
    have i2 := dIndex_np (of_decide_eq_true h2)
    generalize encW w = x
    generalize PyData.tuple (ps.map np) = l at i1 i2 ⊢
    walk_at "evh"
    rfl
theorem left_c5 {w : W} (hw : WF w) {y z : PyData} {l3 : List PyData} {ps : List Nat} (hps : ∀ p ∈ ps, p < w.n) : fComp (G := G0) (fItems (fVar 3)) (bName 5) fYes (f2 dIx (f2 dIx (fVar 0) (fC (.int 2))) (fVar 5)) [5] [.d (encW w), .d y, .d z, .d (.tuple (ps.map np)), .d (.tuple l3), .no, .no, .no] () = some ((sub w ps).tr.map tD, ()) := by
  have := fComp_of (G := G0) (src := fItems (fVar 3)) (bd := bName 5) (ft := fYes) (fe := f2 dIx (f2 dIx (fVar 0) (fC (.int 2))) (fVar 5)) (vs := [5]) (ρ := [.d (encW w), .d y, .d z, .d (.tuple (ps.map np)), .d (.tuple l3), .no, .no, .no]) (g := ()) np (fun _ => true) (fun q => tD (w.tr.getD q [])) rfl fun q hq => ⟨[.d (encW w), .d y, .d z, .d (.tuple (ps.map np)), .d (.tuple l3), .d (np q), .no, .no], rfl, rfl, fun hc => ?_⟩
  · rw [this, List.filter_eq_self.mpr (fun _ _ => rfl)]
    simp only [sub, List.map_map]
    rfl
  · have i1 := lookT w hw (hps q hq)
    unfold encW
    generalize PyData.tuple (ps.map np) = l
    walk_at "evh"
theorem left_ok {w : W} (hw : WF w) {s : Sn} (hs : ht s < 64) : S_law_left [.d (encW w), .d (enc s)] = some (told w (pts (fun q => L w s (List.range w.n) q) w.n)) := by
  unfold S_law_left
  have e0 := left_c0 hw (S := enc s)
  have e1 := left_c1 (w := w) (f := S_law_true 64) (S := enc s) (h := List.range w.n) (t := fun q => L w s (List.range w.n) q) fun q hq => ltrue_ok hw 64 s _ q (fun q hq => List.mem_range.mp hq) (List.mem_range.mp hq) hs
  have hp1 : ∀ p ∈ pts (fun q => L w s (List.range w.n) q) w.n, p < w.n := fun p hp => (pts_mem.mp hp).1
  have hp2 := pts_lt (fun q => L w s (List.range w.n) q) w.n
  have hp3 := pts_len (fun q => L w s (List.range w.n) q) w.n
  have e1' : (List.range w.n).filter (fun q => L w s (List.range w.n) q) = pts (fun q => L w s (List.range w.n) q) w.n := rfl
  rw [e1'] at e1
  clear e1'
  generalize pts (fun q => L w s (List.range w.n) q) w.n = ps at e1 hp1 hp2 hp3 ⊢
  have e2 := dEq_nilT ps
  unfold told
  by_cases hp : ps = []
  · rw [if_pos hp]
    exact left_none e0 e1 (by rw [e2, decide_eq_true hp])
  · rw [if_neg hp]
    have e5 := set_sorted (sub_so hw hp2) (by
      have := (sub_wf hw hp2 hp3).sz
      omega)
    have := left_some e0 e1 (by rw [e2, decide_eq_false hp]) left_c3 e5 (left_c5 hw hp1)
    rw [this, List.length_map]
    rfl
/-! ### alike -/
inductive Pl : Nat → PyData → Prop
  | none (n : Nat) : Pl n .none
  | bool (n : Nat) (b : Bool) : Pl n (.bool b)
  | int (n : Nat) (i : Int) : Pl n (.int i)
  | str (n : Nat) (x : Str) : Pl n (.str x)
  | tup {n : Nat} {xs : List PyData} : (∀ x ∈ xs, Pl n x) → xs.length ≤ 1000000 → Pl (n + 1) (.tuple xs)
theorem al_none {f : List Ag → Option PyData} : semP 2 3 (F_law_alike f) [.d .none, .d .none] = some (.bool true) := by
  unfold F_law_alike
  walk_at "evh"
theorem al_bool {f : List Ag → Option PyData} (b : Bool) : semP 2 3 (F_law_alike f) [.d (.bool b), .d (.bool b)] = some (.bool true) := by
  unfold F_law_alike
  have e : (b == b) = true := by cases b <;> rfl
  walk_at "evh"
theorem al_int {f : List Ag → Option PyData} (b : Int) : semP 2 3 (F_law_alike f) [.d (.int b), .d (.int b)] = some (.bool true) := by
  unfold F_law_alike
  have e : (b == b) = true := by simp
  walk_at "evh"
theorem al_str {f : List Ag → Option PyData} (b : Str) : semP 2 3 (F_law_alike f) [.d (.str b), .d (.str b)] = some (.bool true) := by
  unfold F_law_alike
  have e : (b == b) = true := by simp
  walk_at "evh"
theorem al_tup {f : List Ag → Option PyData} {y : PyData} {n : Int} (e1 : dIsi "tuple" y = some (.bool true)) (e2 : dLen1 y = some (.int n)) (e3 : (n == n) = true) (e4 : dEq (.list []) (.list []) = some (.bool true)) (e : fComp (G := G0) (fRange1 (fB1 dLen (fCons (fVar 1) fNil))) (bName 2) (fNot (fB (fCallP f (fCons (f2 dIx (fVar 0) (fVar 2)) (fCons (f2 dIx (fVar 1) (fVar 2)) fNil))))) (fVar 2) [2] [.d y, .d y, .no] () = some ([], ())) :
    semP 2 3 (F_law_alike f) [.d y, .d y] = some (.bool true) := by
  unfold F_law_alike
  walk_at "evh"
theorem al_rng {y : PyData} {n : Nat} (e2 : dLen1 y = some (np n)) (hl : n ≤ 1000000) : fRange1 (G := G0) (fB1 dLen (fCons (fVar 1) fNil)) [.d y, .d y, .no] () = some ((List.range n).map np, ()) := by
  apply range_np (n := n) _ hl
  walk_at "evh"
theorem al_comp {f : List Ag → Option PyData} {y : PyData} {n : Nat} (e2 : dLen1 y = some (np n)) (hl : n ≤ 1000000) (h : ∀ q, q < n → ∃ z, dIx y (np q) = some z ∧ f [.d z, .d z] = some (.bool true)) : fComp (G := G0) (fRange1 (fB1 dLen (fCons (fVar 1) fNil))) (bName 2) (fNot (fB (fCallP f (fCons (f2 dIx (fVar 0) (fVar 2)) (fCons (f2 dIx (fVar 1) (fVar 2)) fNil))))) (fVar 2) [2] [.d y, .d y, .no] () = some ([], ()) := by
  have := fComp_of (G := G0) (bd := bName 2) (ft := fNot (fB (fCallP f (fCons (f2 dIx (fVar 0) (fVar 2)) (fCons (f2 dIx (fVar 1) (fVar 2)) fNil))))) (fe := fVar 2) (vs := [2]) (ρ := [.d y, .d y, .no]) (g := ()) np (fun _ => false) np (al_rng e2 hl) fun q hq => ⟨[.d y, .d y, .d (np q)], rfl, ?_, fun hc => by cases hc⟩
  · rw [this]; simp
  · obtain ⟨z, e1, e3⟩ := h q (List.mem_range.mp hq)
    clear h
    generalize np q = i at e1 ⊢
    walk_at "evh"
theorem alike_ok : ∀ m n d, Pl n d → n < m → S_law_alike m [.d d, .d d] = some (.bool true) := by
  intro m
  induction m with
  | zero => intro n d _ h; omega
  | succ m ih =>
    intro n d hd hn
    rw [S_law_alike]
    cases hd with
    | none => exact al_none
    | bool _ b => exact al_bool b
    | int _ b => exact al_int b
    | str _ b => exact al_str b
    | @tup n xs h hl =>
      refine al_tup (ii_tt xs) (n := (xs.length : Nat)) rfl (by simp) (dEq_prs []) (al_comp (n := xs.length) rfl hl fun q hq => ⟨xs[q], atI_nat (by simp [hq]), ih n xs[q] (h _ (List.getElem_mem hq)) (by omega)⟩)
theorem Pl.mono {d : PyData} : ∀ {n m : Nat}, Pl n d → n ≤ m → Pl m d := by
  intro n m h
  induction h generalizing m with
  | none n => intro _; exact .none m
  | bool n b => intro _; exact .bool m b
  | int n b => intro _; exact .int m b
  | str n b => intro _; exact .str m b
  | @tup n xs h hl ih =>
    intro hm
    obtain ⟨k, rfl⟩ : ∃ k, m = k + 1 := ⟨m - 1, by omega⟩
    exact .tup (fun x hx => ih x hx (by omega)) hl
theorem Pl_encW {w : W} (hw : WF w) (ht : ∀ t ∈ w.tr, t.length ≤ 1000) : Pl 4 (encW w) := by
  have hs := hw.sz
  refine .tup (fun x hx => ?_) (by simp)
  simp only [List.mem_cons, List.mem_nil_iff, or_false] at hx
  rcases hx with rfl | rfl | rfl
  · exact .int _ _
  · refine .tup (fun x hx => ?_) (by rw [List.length_map]; omega)
    obtain ⟨q, _, rfl⟩ := List.mem_map.mp hx
    refine .tup (fun x hx => ?_) (by simp)
    simp only [List.mem_cons, List.mem_nil_iff, or_false] at hx
    rcases hx with rfl | rfl <;> exact .int _ _
  · refine .tup (fun x hx => ?_) (by rw [List.length_map, hw.tr]; omega)
    obtain ⟨t, hm, rfl⟩ := List.mem_map.mp hx
    refine .tup (fun x hx => ?_) (by rw [List.length_map]; have := ht t hm; omega)
    obtain ⟨s, _, rfl⟩ := List.mem_map.mp hx
    exact .str _ _
theorem Pl_told {w : W} (hw : WF w) (ht : ∀ t ∈ w.tr, t.length ≤ 1000) {ps : List Nat} (hp : ps.Pairwise (· < ·)) (hl : ps.length ≤ w.n) : Pl 5 (told w ps) := by
  unfold told
  split
  · exact .none _
  · have := hw.sz
    refine .tup (fun x hx => ?_) (by simp)
    simp only [List.mem_cons, List.mem_nil_iff, or_false] at hx
    rcases hx with rfl | rfl
    · refine Pl_encW (sub_wf hw hp hl) fun t hm => ?_
      unfold sub at hm
      obtain ⟨p, _, rfl⟩ := List.mem_map.mp hm
      rw [List.getD_eq_getElem?_getD]
      cases z : w.tr[p]? with
      | none => simp
      | some t => exact ht t (List.mem_of_getElem? z)
    · refine .tup (fun x hx => ?_) (by rw [List.length_map]; omega)
      obtain ⟨q, _, rfl⟩ := List.mem_map.mp hx
      exact .int _ _
end K75

set_option Elab.async false
set_option linter.all false
set_option maxRecDepth 100000
set_option maxHeartbeats 4000000
namespace K75
open PySem PySem.Spec L2 DL
local macro_rules | `(tactic| walk_at "ev0") => `(tactic| simp only [enter, List.length_cons, List.length_nil, List.replicate, List.cons_append, List.nil_append, sSeq, Nat.zero_add, Nat.reduceAdd, Nat.reduceSub])
local macro_rules | `(tactic| walk_at "ev") => `(tactic| try simp only [semP, semPN, semG, semGN, enter, outR, List.length_cons, List.length_nil, List.replicate, List.cons_append, List.nil_append, sSeq, sIf, sRet, sRetN, sRetO, sSkip, sSetH, sSet, sSetN, sAsgH, sAsg, sApp, sAppH, sDo, hide_nil, hide, hideAux, bName, bTup, bCons, bNil, fVar, fC, f1, f2, fIf, fB, fAnd, fOr, fNot, fAndV, fOrV, fNotV, fN, fTup, fLst, fNil, fCons, fConsR, fSl, fSlL, fPart, fB1, fB1N, fCall, fCallP, fCallPN, fCallN, fItems, wipeE, dSl, cut_1, fSl, fPart, ii_tt, ii_st, ii_ss, ii_tn, ii_tb, ii_ti, ii_ts, ii_bn, ii_bb, ii_bi, ii_bs, ii_in, ii_ib, ii_ii, ii_is, isn_n, isn_b, isn_i, isn_s, isn_t,  fRange1, dItems, mb_some, mb_none, mp_some, mp_none, agD, Option.map_some, Option.map_none, Option.bind_some, d1, d2, l1, dLen_t, dLen_l, dInt1, dAbs1, dTuple1, dIx_t, dIx_l, dEq_int, dEq_np, imm_np, immL_nps, immL_bools, immL_strs, dEq_str, dNe_int, dNe_str, dEq_bool, dNe_bool, dGe_int, dGt_int, dLt_int, dLe_int, dAdd_int, dSub_int, dAddI_int, imm, immL, dIn_str2, dIn_str3, sq_name_name, sq_name_false, sq_name_said, sq_name_box, sq_name_may, sq_name_not, sq_name_and, sq_name_or, sq_name_then, sq_false_name, sq_false_false, sq_false_said, sq_false_box, sq_false_may, sq_false_not, sq_false_and, sq_false_or, sq_false_then, sq_said_name, sq_said_false, sq_said_said, sq_said_box, sq_said_may, sq_said_not, sq_said_and, sq_said_or, sq_said_then, sq_box_name, sq_box_false, sq_box_said, sq_box_box, sq_box_may, sq_box_not, sq_box_and, sq_box_or, sq_box_then, sq_may_name, sq_may_false, sq_may_said, sq_may_box, sq_may_may, sq_may_not, sq_may_and, sq_may_or, sq_may_then, sq_not_name, sq_not_false, sq_not_said, sq_not_box, sq_not_may, sq_not_not, sq_not_and, sq_not_or, sq_not_then, sq_and_name, sq_and_false, sq_and_said, sq_and_box, sq_and_may, sq_and_not, sq_and_and, sq_and_or, sq_and_then, sq_or_name, sq_or_false, sq_or_said, sq_or_box, sq_or_may, sq_or_not, sq_or_and, sq_or_or, sq_or_then, sq_then_name, sq_then_false, sq_then_said, sq_then_box, sq_then_may, sq_then_not, sq_then_and, sq_then_or, sq_then_then, atI_0, atI_1, atI_2, atI_3, List.getElem?_cons_zero, List.getElem?_cons_succ, List.set_cons_zero, List.set_cons_succ, if_true, if_false, Bool.false_eq_true, reduceIte, decide_true, decide_false, true_and, and_true, and_self, not_true_eq_false, not_false_eq_true, Nat.zero_add, Nat.reduceAdd, Nat.reduceSub, Nat.reduceEqDiff, List.contains_cons, List.contains_nil, Nat.reduceBEq, Bool.or_false, Bool.false_or, Bool.true_or, Bool.or_true, Bool.and_true, Bool.true_and, Bool.not_true, Bool.not_false, fM, dTuple1, sl0, sl1, sl2, sl3, sl4, sl5, sl6, sl7, sl8, sl9, sl10, sl11, sl12, Nat.reduceLeDiff])
local macro_rules | `(tactic| walk_at "evh") => `(tactic| try simp only [semP, semPN, semG, semGN, enter, outR, List.length_cons, List.length_nil, List.replicate, List.cons_append, List.nil_append, sSeq, sIf, sRet, sRetN, sRetO, sSkip, sSetH, sSet, sSetN, sAsgH, sAsg, sApp, sAppH, sDo, hide_nil, hide, hideAux, bName, bTup, bCons, bNil, fVar, fC, f1, f2, fIf, fB, fAnd, fOr, fNot, fAndV, fOrV, fNotV, fN, fTup, fLst, fNil, fCons, fConsR, fSl, fSlL, fPart, fB1, fB1N, fCall, fCallP, fCallPN, fCallN, fItems, wipeE, dSl, cut_1, fSl, fPart, ii_tt, ii_st, ii_ss, ii_tn, ii_tb, ii_ti, ii_ts, ii_bn, ii_bb, ii_bi, ii_bs, ii_in, ii_ib, ii_ii, ii_is, isn_n, isn_b, isn_i, isn_s, isn_t,  fRange1, dItems, mb_some, mb_none, mp_some, mp_none, agD, Option.map_some, Option.map_none, Option.bind_some, d1, d2, l1, dLen_t, dLen_l, dInt1, dAbs1, dTuple1, dIx_t, dIx_l, dEq_int, dEq_np, imm_np, immL_nps, immL_bools, immL_strs, dEq_str, dNe_int, dNe_str, dEq_bool, dNe_bool, dGe_int, dGt_int, dLt_int, dLe_int, dAdd_int, dSub_int, dAddI_int, imm, immL, dIn_str2, dIn_str3, sq_name_name, sq_name_false, sq_name_said, sq_name_box, sq_name_may, sq_name_not, sq_name_and, sq_name_or, sq_name_then, sq_false_name, sq_false_false, sq_false_said, sq_false_box, sq_false_may, sq_false_not, sq_false_and, sq_false_or, sq_false_then, sq_said_name, sq_said_false, sq_said_said, sq_said_box, sq_said_may, sq_said_not, sq_said_and, sq_said_or, sq_said_then, sq_box_name, sq_box_false, sq_box_said, sq_box_box, sq_box_may, sq_box_not, sq_box_and, sq_box_or, sq_box_then, sq_may_name, sq_may_false, sq_may_said, sq_may_box, sq_may_may, sq_may_not, sq_may_and, sq_may_or, sq_may_then, sq_not_name, sq_not_false, sq_not_said, sq_not_box, sq_not_may, sq_not_not, sq_not_and, sq_not_or, sq_not_then, sq_and_name, sq_and_false, sq_and_said, sq_and_box, sq_and_may, sq_and_not, sq_and_and, sq_and_or, sq_and_then, sq_or_name, sq_or_false, sq_or_said, sq_or_box, sq_or_may, sq_or_not, sq_or_and, sq_or_or, sq_or_then, sq_then_name, sq_then_false, sq_then_said, sq_then_box, sq_then_may, sq_then_not, sq_then_and, sq_then_or, sq_then_then, atI_0, atI_1, atI_2, atI_3, List.getElem?_cons_zero, List.getElem?_cons_succ, List.set_cons_zero, List.set_cons_succ, if_true, if_false, Bool.false_eq_true, reduceIte, decide_true, decide_false, true_and, and_true, and_self, not_true_eq_false, not_false_eq_true, Nat.zero_add, Nat.reduceAdd, Nat.reduceSub, Nat.reduceEqDiff, List.contains_cons, List.contains_nil, Nat.reduceBEq, Bool.or_false, Bool.false_or, Bool.true_or, Bool.or_true, Bool.and_true, Bool.true_and, Bool.not_true, Bool.not_false, fM, dTuple1, sl0, sl1, sl2, sl3, sl4, sl5, sl6, sl7, sl8, sl9, sl10, sl11, sl12, Nat.reduceLeDiff, *])






local macro_rules | `(tactic| walk_at "evw") => `(tactic| try simp only [semP, semPN, semG, semGN, enter, outR, List.length_cons, List.length_nil, List.replicate, List.cons_append, List.nil_append, sSeq, sIf, sRet, sRetN, sRetO, sSkip, sSetH, sSet, sSetN, sAsgH, sAsg, sApp, sAppH, sDo, hide_nil, hide, hideAux, bName, bTup, bCons, bNil, fVar, fC, f1, f2, fIf, fB, fAnd, fOr, fNot, fAndV, fOrV, fNotV, fN, fTup, fLst, fNil, fCons, fConsR, fSl, fSlL, fPart, fB1, fB1N, fCall, fCallP, fCallPN, fCallN, fItems, wipeE, dSl, cut_1, fSl, fPart, ii_tt, ii_st, ii_ss, ii_tn, ii_tb, ii_ti, ii_ts, ii_bn, ii_bb, ii_bi, ii_bs, ii_in, ii_ib, ii_ii, ii_is, isn_n, isn_b, isn_i, isn_s, isn_t,  fRange1, dItems, mb_some, mb_none, mp_some, mp_none, agD, Option.map_some, Option.map_none, Option.bind_some, d1, d2, l1,  dInt1, dAbs1, dTuple1, dIx_t, dIx_l, dEq_int, dEq_np, imm_np, immL_nps, immL_bools, immL_strs, dEq_str, dNe_int, dNe_str, dEq_bool, dNe_bool, dGe_int, dGt_int, dLt_int, dLe_int, dAdd_int, dSub_int, dAddI_int, imm, immL, dIn_str2, dIn_str3, sq_name_name, sq_name_false, sq_name_said, sq_name_box, sq_name_may, sq_name_not, sq_name_and, sq_name_or, sq_name_then, sq_false_name, sq_false_false, sq_false_said, sq_false_box, sq_false_may, sq_false_not, sq_false_and, sq_false_or, sq_false_then, sq_said_name, sq_said_false, sq_said_said, sq_said_box, sq_said_may, sq_said_not, sq_said_and, sq_said_or, sq_said_then, sq_box_name, sq_box_false, sq_box_said, sq_box_box, sq_box_may, sq_box_not, sq_box_and, sq_box_or, sq_box_then, sq_may_name, sq_may_false, sq_may_said, sq_may_box, sq_may_may, sq_may_not, sq_may_and, sq_may_or, sq_may_then, sq_not_name, sq_not_false, sq_not_said, sq_not_box, sq_not_may, sq_not_not, sq_not_and, sq_not_or, sq_not_then, sq_and_name, sq_and_false, sq_and_said, sq_and_box, sq_and_may, sq_and_not, sq_and_and, sq_and_or, sq_and_then, sq_or_name, sq_or_false, sq_or_said, sq_or_box, sq_or_may, sq_or_not, sq_or_and, sq_or_or, sq_or_then, sq_then_name, sq_then_false, sq_then_said, sq_then_box, sq_then_may, sq_then_not, sq_then_and, sq_then_or, sq_then_then, atI_0, atI_1, atI_2, atI_3, List.getElem?_cons_zero, List.getElem?_cons_succ, List.set_cons_zero, List.set_cons_succ, if_true, if_false, Bool.false_eq_true, reduceIte, decide_true, decide_false, true_and, and_true, and_self, not_true_eq_false, not_false_eq_true, Nat.zero_add, Nat.reduceAdd, Nat.reduceSub, Nat.reduceEqDiff, List.contains_cons, List.contains_nil, Nat.reduceBEq, Bool.or_false, Bool.false_or, Bool.true_or, Bool.or_true, Bool.and_true, Bool.true_and, Bool.not_true, Bool.not_false, fM, dTuple1, sl0, sl1, sl2, sl3, sl4, sl5, sl6, sl7, sl8, sl9, sl10, sl11, sl12, Nat.reduceLeDiff, *])







/-! ### without -/
def kindsD : PyData := .dict [(.str "false", .int 1), (.str "not", .int 2), (.str "and", .int 3), (.str "or", .int 3), (.str "then", .int 3), (.str "box", .int 2), (.str "may", .int 2)]
theorem dict_ok (ρ : En) : (fDict (fpCons (fC (.str "false")) (fC (.int 1)) (fpCons (fC (.str "not")) (fC (.int 2)) (fpCons (fC (.str "and")) (fC (.int 3)) (fpCons (fC (.str "or")) (fC (.int 3)) (fpCons (fC (.str "then")) (fC (.int 3)) (fpCons (fC (.str "box")) (fC (.int 2)) (fpCons (fC (.str "may")) (fC (.int 2)) fpNil))))))) : Fe G0) ρ () = some (kindsD, ()) := by kernel_rfl
theorem get_ok {k : Str} {m : Int} {xs : List PyData} {a b : Ag} (h : dGet2 kindsD (.str k) (.int 0) = some (.int m)) : (f3 dGet2 (fDict (fpCons (fC (.str "false")) (fC (.int 1)) (fpCons (fC (.str "not")) (fC (.int 2)) (fpCons (fC (.str "and")) (fC (.int 3)) (fpCons (fC (.str "or")) (fC (.int 3)) (fpCons (fC (.str "then")) (fC (.int 3)) (fpCons (fC (.str "box")) (fC (.int 2)) (fpCons (fC (.str "may")) (fC (.int 2)) fpNil)))))))) (f2 dIx (fVar 0) (fC (.int 0))) (fC (.int 0)) : Fe G0) [.d (.tuple (.str k :: xs)), a, b] () = some (.int m, ()) := by
  unfold f3
  rw [dict_ok]
  generalize kindsD = D at h
  walk_at "evh"
theorem iw_name {f : List Ag → Option PyData} {x : Str} {T : PyData} (hT : T = .tuple [.str "name", .str x]) (e0 : dEq (.tuple [.str "name", .str x]) (.tuple []) = some (.bool false)) (l : dLen1 (.tuple [.str "name", .str x]) = some (.int 2)) (q : ((2 : Int) == 2) = true) : semP 1 3 (F_law_is_without f) [.d T] = some (.bool true) := by
  subst hT
  unfold F_law_is_without
  walk_at "evw"
theorem iw_gen {f : List Ag → Option PyData} {k : Str} {m : Int} {xs : List PyData} (hk : (k == "name") = false) (e0 : dEq (.tuple (.str k :: xs)) (.tuple []) = some (.bool false)) (e1 : (f3 dGet2 (fDict (fpCons (fC (.str "false")) (fC (.int 1)) (fpCons (fC (.str "not")) (fC (.int 2)) (fpCons (fC (.str "and")) (fC (.int 3)) (fpCons (fC (.str "or")) (fC (.int 3)) (fpCons (fC (.str "then")) (fC (.int 3)) (fpCons (fC (.str "box")) (fC (.int 2)) (fpCons (fC (.str "may")) (fC (.int 2)) fpNil)))))))) (f2 dIx (fVar 0) (fC (.int 0))) (fC (.int 0)) : Fe G0) [.d (.tuple (.str k :: xs)), .no, .no] () = some (.int m, ()))
    (l : dLen1 (.tuple (.str k :: xs)) = some (.int m)) (q : (m == m) = true) (e4 : dEq (.list []) (.list []) = some (.bool true)) (c : fComp (G := G0) (fItems (fSl (fVar 0) (fPart (some (fC (.int 1)))) (fPart none))) (bName 2) (fNot (fB (fCallP f (fCons (fVar 2) fNil)))) (fVar 2) [2] [.d (.tuple (.str k :: xs)), .d (.int m), .no] () = some ([], ())) :
    semP 1 3 (F_law_is_without f) [.d (.tuple (.str k :: xs))] = some (.bool true) := by
  unfold F_law_is_without
  walk_at "evw"
theorem iw_comp {f : List Ag → Option PyData} {k : Str} {m : Int} {xs : List PyData} (h : ∀ x ∈ xs, f [.d x] = some (.bool true)) : fComp (G := G0) (fItems (fSl (fVar 0) (fPart (some (fC (.int 1)))) (fPart none))) (bName 2) (fNot (fB (fCallP f (fCons (fVar 2) fNil)))) (fVar 2) [2] [.d (.tuple (.str k :: xs)), .d (.int m), .no] () = some ([], ()) := by
  have r : (fItems (fSl (fVar 0) (fPart (some (fC (.int 1)))) (fPart none)) : Fl G0) [.d (.tuple (.str k :: xs)), .d (.int m), .no] () = some (xs.map fun x => x, ()) := by
    rw [List.map_id']
    walk_at "evh"
  have := fComp_of (G := G0) (bd := bName 2) (ft := fNot (fB (fCallP f (fCons (fVar 2) fNil)))) (fe := fVar 2) (vs := [2]) (ρ := [.d (.tuple (.str k :: xs)), .d (.int m), .no]) (g := ()) (fun x => x) (fun _ => false) (fun x => x) r fun x hx => ⟨[.d (.tuple (.str k :: xs)), .d (.int m), .d x], rfl, ?_, fun hc => by cases hc⟩
  · rw [this]; simp
  · have e := h x hx
    clear h r
    generalize PyData.tuple (.str k :: xs) = y
    walk_at "evh"
theorem shp_enc : ∀ {s : Sn}, good s → Shp (ht s + 1) (enc s)
  | .nm x, h => Shp.tup fun y hy => by
    simp only [List.mem_cons, List.mem_nil_iff, or_false] at hy
    rcases hy with rfl | rfl
    · exact Shp.str (by decide +kernel)
    · exact Shp.str h
  | .fl, _ => Shp.tup fun y hy => by
    simp only [List.mem_cons, List.mem_nil_iff, or_false] at hy
    subst hy; exact Shp.str (by decide +kernel)
  | .nt a, h => Shp.tup fun y hy => by
    simp only [List.mem_cons, List.mem_nil_iff, or_false] at hy
    rcases hy with rfl | rfl
    · exact Shp.str (by decide +kernel)
    · exact shp_enc (s := a) h
  | .bx a, h => Shp.tup fun y hy => by
    simp only [List.mem_cons, List.mem_nil_iff, or_false] at hy
    rcases hy with rfl | rfl
    · exact Shp.str (by decide +kernel)
    · exact shp_enc (s := a) h
  | .my a, h => Shp.tup fun y hy => by
    simp only [List.mem_cons, List.mem_nil_iff, or_false] at hy
    rcases hy with rfl | rfl
    · exact Shp.str (by decide +kernel)
    · exact shp_enc (s := a) h
  | .an a b, h => Shp.tup fun y hy => by
    have h1 := shp_enc (s := a) h.1
    have h2 := shp_enc (s := b) h.2
    simp only [List.mem_cons, List.mem_nil_iff, or_false] at hy
    rcases hy with rfl | rfl | rfl
    · exact Shp.str (by decide +kernel)
    · exact ⟨h1.1, Nat.le_trans h1.2 (by simp only [ht]; omega)⟩
    · exact ⟨h2.1, Nat.le_trans h2.2 (by simp only [ht]; omega)⟩
  | .or a b, h => Shp.tup fun y hy => by
    have h1 := shp_enc (s := a) h.1
    have h2 := shp_enc (s := b) h.2
    simp only [List.mem_cons, List.mem_nil_iff, or_false] at hy
    rcases hy with rfl | rfl | rfl
    · exact Shp.str (by decide +kernel)
    · exact ⟨h1.1, Nat.le_trans h1.2 (by simp only [ht]; omega)⟩
    · exact ⟨h2.1, Nat.le_trans h2.2 (by simp only [ht]; omega)⟩
  | .th a b, h => Shp.tup fun y hy => by
    have h1 := shp_enc (s := a) h.1
    have h2 := shp_enc (s := b) h.2
    simp only [List.mem_cons, List.mem_nil_iff, or_false] at hy
    rcases hy with rfl | rfl | rfl
    · exact Shp.str (by decide +kernel)
    · exact ⟨h1.1, Nat.le_trans h1.2 (by simp only [ht]; omega)⟩
    · exact ⟨h2.1, Nat.le_trans h2.2 (by simp only [ht]; omega)⟩
  | .sd a b, h => Shp.tup fun y hy => by
    have h1 := shp_enc (s := a) h.1
    have h2 := shp_enc (s := b) h.2
    simp only [List.mem_cons, List.mem_nil_iff, or_false] at hy
    rcases hy with rfl | rfl | rfl
    · exact Shp.str (by decide +kernel)
    · exact ⟨h1.1, Nat.le_trans h1.2 (by simp only [ht]; omega)⟩
    · exact ⟨h2.1, Nat.le_trans h2.2 (by simp only [ht]; omega)⟩
theorem enc_ne {s : Sn} (h : good s) (hl : ht s < 60) {xs : List PyData} (e : enc s = .tuple xs) (h0 : xs ≠ []) : dEq (.tuple xs) (.tuple []) = some (.bool false) := by
  have hs := shp_enc h
  rw [e] at hs
  rw [dEq_shp hs (by omega) (Shp.tup (k := 0) (ys := []) (fun y hy => by cases hy)) (by decide), eqv_nilT, decide_eq_false h0]
theorem without_law : ∀ n s, free s → good s → ht s < n → ht s < 60 → S_law_is_without n [.d (enc s)] = some (.bool true) := by
  intro n
  induction n with
  | zero => intro s _ _ h; omega
  | succ n ih =>
    intro s hf hg hn hl
    rw [S_law_is_without]
    have key : ∀ (k : Str) (m : Int) (xs : List PyData), enc s = .tuple (.str k :: xs) → (k == "name") = false → dGet2 kindsD (.str k) (.int 0) = some (.int m) → dLen1 (.tuple (.str k :: xs)) = some (.int m) → (∀ x ∈ xs, S_law_is_without n [.d x] = some (.bool true)) → semP 1 3 (F_law_is_without (S_law_is_without n)) [.d (enc s)] = some (.bool true) := by
      intro k m xs e hk hd hl' hx
      have e0 := enc_ne hg hl e (by simp)
      rw [e]
      exact iw_gen hk e0 (get_ok hd) hl' (by simp) (dEq_prs []) (iw_comp hx)
    cases s with
    | nm x => exact iw_name rfl (enc_ne hg hl rfl (by simp)) rfl rfl
    | fl => exact key "false" 1 [] rfl (by decide +kernel) (by kernel_rfl) rfl (by simp)
    | nt a =>
      exact key "not" 2 [enc a] rfl (by decide +kernel) (by kernel_rfl) rfl fun x hx => by
        have : x = enc a := by simpa using hx
        subst this; simp only [ht] at hn hl; exact ih a hf hg (by omega) (by omega)
    | bx a =>
      exact key "box" 2 [enc a] rfl (by decide +kernel) (by kernel_rfl) rfl fun x hx => by
        have : x = enc a := by simpa using hx
        subst this; simp only [ht] at hn hl; exact ih a hf hg (by omega) (by omega)
    | my a =>
      exact key "may" 2 [enc a] rfl (by decide +kernel) (by kernel_rfl) rfl fun x hx => by
        have : x = enc a := by simpa using hx
        subst this; simp only [ht] at hn hl; exact ih a hf hg (by omega) (by omega)
    | an a b =>
      exact key "and" 3 [enc a, enc b] rfl (by decide +kernel) (by kernel_rfl) rfl fun x hx => by
        have : x = enc a ∨ x = enc b := by simpa using hx
        simp only [ht] at hn hl
        rcases this with rfl | rfl
        · exact ih a hf.1 hg.1 (by omega) (by omega)
        · exact ih b hf.2 hg.2 (by omega) (by omega)
    | or a b =>
      exact key "or" 3 [enc a, enc b] rfl (by decide +kernel) (by kernel_rfl) rfl fun x hx => by
        have : x = enc a ∨ x = enc b := by simpa using hx
        simp only [ht] at hn hl
        rcases this with rfl | rfl
        · exact ih a hf.1 hg.1 (by omega) (by omega)
        · exact ih b hf.2 hg.2 (by omega) (by omega)
    | th a b =>
      exact key "then" 3 [enc a, enc b] rfl (by decide +kernel) (by kernel_rfl) rfl fun x hx => by
        have : x = enc a ∨ x = enc b := by simpa using hx
        simp only [ht] at hn hl
        rcases this with rfl | rfl
        · exact ih a hf.1 hg.1 (by omega) (by omega)
        · exact ih b hf.2 hg.2 (by omega) (by omega)
    | sd a b => exact hf.elim
end K75

set_option Elab.async false
set_option linter.all false
set_option maxRecDepth 100000
set_option maxHeartbeats 4000000
namespace K75
open PySem PySem.Spec L2 DL
local macro_rules | `(tactic| walk_at "ev0") => `(tactic| simp only [enter, List.length_cons, List.length_nil, List.replicate, List.cons_append, List.nil_append, sSeq, Nat.zero_add, Nat.reduceAdd, Nat.reduceSub])
local macro_rules | `(tactic| walk_at "ev") => `(tactic| try simp only [semP, semPN, semG, semGN, enter, outR, List.length_cons, List.length_nil, List.replicate, List.cons_append, List.nil_append, sSeq, sIf, sRet, sRetN, sRetO, sSkip, sSetH, sSet, sSetN, sAsgH, sAsg, sApp, sAppH, sDo, hide_nil, hide, hideAux, bName, bTup, bCons, bNil, fVar, fC, f1, f2, fIf, fB, fAnd, fOr, fNot, fAndV, fOrV, fNotV, fN, fTup, fLst, fNil, fCons, fConsR, fSl, fSlL, fPart, fB1, fB1N, fCall, fCallP, fCallPN, fCallN, fItems, wipeE, dSl, cut_1, fSl, fPart, ii_tt, ii_st, ii_ss, ii_tn, ii_tb, ii_ti, ii_ts, ii_bn, ii_bb, ii_bi, ii_bs, ii_in, ii_ib, ii_ii, ii_is, isn_n, isn_b, isn_i, isn_s, isn_t,  fRange1, dItems, mb_some, mb_none, mp_some, mp_none, agD, Option.map_some, Option.map_none, Option.bind_some, d1, d2, l1, dLen_t, dLen_l, dInt1, dAbs1, dTuple1, dIx_t, dIx_l, dEq_int, dEq_np, imm_np, immL_nps, immL_bools, immL_strs, dEq_str, dNe_int, dNe_str, dEq_bool, dNe_bool, dGe_int, dGt_int, dLt_int, dLe_int, dAdd_int, dSub_int, dAddI_int, imm, immL, dIn_str2, dIn_str3, sq_name_name, sq_name_false, sq_name_said, sq_name_box, sq_name_may, sq_name_not, sq_name_and, sq_name_or, sq_name_then, sq_false_name, sq_false_false, sq_false_said, sq_false_box, sq_false_may, sq_false_not, sq_false_and, sq_false_or, sq_false_then, sq_said_name, sq_said_false, sq_said_said, sq_said_box, sq_said_may, sq_said_not, sq_said_and, sq_said_or, sq_said_then, sq_box_name, sq_box_false, sq_box_said, sq_box_box, sq_box_may, sq_box_not, sq_box_and, sq_box_or, sq_box_then, sq_may_name, sq_may_false, sq_may_said, sq_may_box, sq_may_may, sq_may_not, sq_may_and, sq_may_or, sq_may_then, sq_not_name, sq_not_false, sq_not_said, sq_not_box, sq_not_may, sq_not_not, sq_not_and, sq_not_or, sq_not_then, sq_and_name, sq_and_false, sq_and_said, sq_and_box, sq_and_may, sq_and_not, sq_and_and, sq_and_or, sq_and_then, sq_or_name, sq_or_false, sq_or_said, sq_or_box, sq_or_may, sq_or_not, sq_or_and, sq_or_or, sq_or_then, sq_then_name, sq_then_false, sq_then_said, sq_then_box, sq_then_may, sq_then_not, sq_then_and, sq_then_or, sq_then_then, atI_0, atI_1, atI_2, atI_3, List.getElem?_cons_zero, List.getElem?_cons_succ, List.set_cons_zero, List.set_cons_succ, if_true, if_false, Bool.false_eq_true, reduceIte, decide_true, decide_false, true_and, and_true, and_self, not_true_eq_false, not_false_eq_true, Nat.zero_add, Nat.reduceAdd, Nat.reduceSub, Nat.reduceEqDiff, List.contains_cons, List.contains_nil, Nat.reduceBEq, Bool.or_false, Bool.false_or, Bool.true_or, Bool.or_true, Bool.and_true, Bool.true_and, Bool.not_true, Bool.not_false, fM, dTuple1, sl0, sl1, sl2, sl3, sl4, sl5, sl6, sl7, sl8, sl9, sl10, sl11, sl12, Nat.reduceLeDiff])
local macro_rules | `(tactic| walk_at "evh") => `(tactic| try simp only [semP, semPN, semG, semGN, enter, outR, List.length_cons, List.length_nil, List.replicate, List.cons_append, List.nil_append, sSeq, sIf, sRet, sRetN, sRetO, sSkip, sSetH, sSet, sSetN, sAsgH, sAsg, sApp, sAppH, sDo, hide_nil, hide, hideAux, bName, bTup, bCons, bNil, fVar, fC, f1, f2, fIf, fB, fAnd, fOr, fNot, fAndV, fOrV, fNotV, fN, fTup, fLst, fNil, fCons, fConsR, fSl, fSlL, fPart, fB1, fB1N, fCall, fCallP, fCallPN, fCallN, fItems, wipeE, dSl, cut_1, fSl, fPart, ii_tt, ii_st, ii_ss, ii_tn, ii_tb, ii_ti, ii_ts, ii_bn, ii_bb, ii_bi, ii_bs, ii_in, ii_ib, ii_ii, ii_is, isn_n, isn_b, isn_i, isn_s, isn_t,  fRange1, dItems, mb_some, mb_none, mp_some, mp_none, agD, Option.map_some, Option.map_none, Option.bind_some, d1, d2, l1, dLen_t, dLen_l, dInt1, dAbs1, dTuple1, dIx_t, dIx_l, dEq_int, dEq_np, imm_np, immL_nps, immL_bools, immL_strs, dEq_str, dNe_int, dNe_str, dEq_bool, dNe_bool, dGe_int, dGt_int, dLt_int, dLe_int, dAdd_int, dSub_int, dAddI_int, imm, immL, dIn_str2, dIn_str3, sq_name_name, sq_name_false, sq_name_said, sq_name_box, sq_name_may, sq_name_not, sq_name_and, sq_name_or, sq_name_then, sq_false_name, sq_false_false, sq_false_said, sq_false_box, sq_false_may, sq_false_not, sq_false_and, sq_false_or, sq_false_then, sq_said_name, sq_said_false, sq_said_said, sq_said_box, sq_said_may, sq_said_not, sq_said_and, sq_said_or, sq_said_then, sq_box_name, sq_box_false, sq_box_said, sq_box_box, sq_box_may, sq_box_not, sq_box_and, sq_box_or, sq_box_then, sq_may_name, sq_may_false, sq_may_said, sq_may_box, sq_may_may, sq_may_not, sq_may_and, sq_may_or, sq_may_then, sq_not_name, sq_not_false, sq_not_said, sq_not_box, sq_not_may, sq_not_not, sq_not_and, sq_not_or, sq_not_then, sq_and_name, sq_and_false, sq_and_said, sq_and_box, sq_and_may, sq_and_not, sq_and_and, sq_and_or, sq_and_then, sq_or_name, sq_or_false, sq_or_said, sq_or_box, sq_or_may, sq_or_not, sq_or_and, sq_or_or, sq_or_then, sq_then_name, sq_then_false, sq_then_said, sq_then_box, sq_then_may, sq_then_not, sq_then_and, sq_then_or, sq_then_then, atI_0, atI_1, atI_2, atI_3, List.getElem?_cons_zero, List.getElem?_cons_succ, List.set_cons_zero, List.set_cons_succ, if_true, if_false, Bool.false_eq_true, reduceIte, decide_true, decide_false, true_and, and_true, and_self, not_true_eq_false, not_false_eq_true, Nat.zero_add, Nat.reduceAdd, Nat.reduceSub, Nat.reduceEqDiff, List.contains_cons, List.contains_nil, Nat.reduceBEq, Bool.or_false, Bool.false_or, Bool.true_or, Bool.or_true, Bool.and_true, Bool.true_and, Bool.not_true, Bool.not_false, fM, dTuple1, sl0, sl1, sl2, sl3, sl4, sl5, sl6, sl7, sl8, sl9, sl10, sl11, sl12, Nat.reduceLeDiff, *])






local macro_rules | `(tactic| walk_at "evw") => `(tactic| try simp only [semP, semPN, semG, semGN, enter, outR, List.length_cons, List.length_nil, List.replicate, List.cons_append, List.nil_append, sSeq, sIf, sRet, sRetN, sRetO, sSkip, sSetH, sSet, sSetN, sAsgH, sAsg, sApp, sAppH, sDo, hide_nil, hide, hideAux, bName, bTup, bCons, bNil, fVar, fC, f1, f2, fIf, fB, fAnd, fOr, fNot, fAndV, fOrV, fNotV, fN, fTup, fLst, fNil, fCons, fConsR, fSl, fSlL, fPart, fB1, fB1N, fCall, fCallP, fCallPN, fCallN, fItems, wipeE, dSl, cut_1, fSl, fPart, ii_tt, ii_st, ii_ss, ii_tn, ii_tb, ii_ti, ii_ts, ii_bn, ii_bb, ii_bi, ii_bs, ii_in, ii_ib, ii_ii, ii_is, isn_n, isn_b, isn_i, isn_s, isn_t,  fRange1, dItems, mb_some, mb_none, mp_some, mp_none, agD, Option.map_some, Option.map_none, Option.bind_some, d1, d2, l1,  dInt1, dAbs1, dTuple1, dIx_t, dIx_l, dEq_int, dEq_np, imm_np, immL_nps, immL_bools, immL_strs, dEq_str, dNe_int, dNe_str, dEq_bool, dNe_bool, dGe_int, dGt_int, dLt_int, dLe_int, dAdd_int, dSub_int, dAddI_int, imm, immL, dIn_str2, dIn_str3, sq_name_name, sq_name_false, sq_name_said, sq_name_box, sq_name_may, sq_name_not, sq_name_and, sq_name_or, sq_name_then, sq_false_name, sq_false_false, sq_false_said, sq_false_box, sq_false_may, sq_false_not, sq_false_and, sq_false_or, sq_false_then, sq_said_name, sq_said_false, sq_said_said, sq_said_box, sq_said_may, sq_said_not, sq_said_and, sq_said_or, sq_said_then, sq_box_name, sq_box_false, sq_box_said, sq_box_box, sq_box_may, sq_box_not, sq_box_and, sq_box_or, sq_box_then, sq_may_name, sq_may_false, sq_may_said, sq_may_box, sq_may_may, sq_may_not, sq_may_and, sq_may_or, sq_may_then, sq_not_name, sq_not_false, sq_not_said, sq_not_box, sq_not_may, sq_not_not, sq_not_and, sq_not_or, sq_not_then, sq_and_name, sq_and_false, sq_and_said, sq_and_box, sq_and_may, sq_and_not, sq_and_and, sq_and_or, sq_and_then, sq_or_name, sq_or_false, sq_or_said, sq_or_box, sq_or_may, sq_or_not, sq_or_and, sq_or_or, sq_or_then, sq_then_name, sq_then_false, sq_then_said, sq_then_box, sq_then_may, sq_then_not, sq_then_and, sq_then_or, sq_then_then, atI_0, atI_1, atI_2, atI_3, List.getElem?_cons_zero, List.getElem?_cons_succ, List.set_cons_zero, List.set_cons_succ, if_true, if_false, Bool.false_eq_true, reduceIte, decide_true, decide_false, true_and, and_true, and_self, not_true_eq_false, not_false_eq_true, Nat.zero_add, Nat.reduceAdd, Nat.reduceSub, Nat.reduceEqDiff, List.contains_cons, List.contains_nil, Nat.reduceBEq, Bool.or_false, Bool.false_or, Bool.true_or, Bool.or_true, Bool.and_true, Bool.true_and, Bool.not_true, Bool.not_false, fM, dTuple1, sl0, sl1, sl2, sl3, sl4, sl5, sl6, sl7, sl8, sl9, sl10, sl11, sl12, Nat.reduceLeDiff, *])








/-! ### the draws' users -/
section
variable {G : Gh}
theorem pick_gen {N : Fs G} {a : Addr} {xs : List PyData} {m v : Int} {x : PyData} {g g1 : G.T} (l : dLen1 (.list xs) = some (.int m)) (e : N [.rf a, .d (.int m)] g = some (.int v, g1)) (e2 : dIx (.list xs) (.int v) = some x) :
    semG 2 2 (F_law_pick N) [.rf a, .d (.list xs)] g = some (x, g1) := by
  unfold F_law_pick
  walk_at "evw"
variable {N Pk S : Fs G} {a : Addr} {d v u : Int} {x y z : PyData} {g g1 g2 g3 g4 : G.T}
theorem se_A (hd : 0 < d) (e : N [.rf a, .d (.int 13)] g = some (.int v, g1)) (hv : v < 3) (e2 : N [.rf a, .d (.int 7)] g1 = some (.int u, g2)) (hu : 0 < u) (e3 : Pk [.rf a, .d (.list [.str "a", .str "b"])] g2 = some (x, g3)) :
    semG 2 4 (F_law_sentence N Pk S) [.rf a, .d (.int d)] g = some (.tuple [.str "name", x], g3) := by
  unfold F_law_sentence
  walk_at "evh"
theorem se_B (hd : 0 < d) (e : N [.rf a, .d (.int 13)] g = some (.int v, g1)) (hv : v < 3) (e2 : N [.rf a, .d (.int 7)] g1 = some (.int u, g2)) (hu : ¬ 0 < u) :
    semG 2 4 (F_law_sentence N Pk S) [.rf a, .d (.int d)] g = some (.tuple [.str "false"], g2) := by
  unfold F_law_sentence
  walk_at "evh"
theorem se_A0 (hd : ¬ 0 < d) (e : N [.rf a, .d (.int 3)] g = some (.int v, g1)) (hv : v < 3) (e2 : N [.rf a, .d (.int 7)] g1 = some (.int u, g2)) (hu : 0 < u) (e3 : Pk [.rf a, .d (.list [.str "a", .str "b"])] g2 = some (x, g3)) :
    semG 2 4 (F_law_sentence N Pk S) [.rf a, .d (.int d)] g = some (.tuple [.str "name", x], g3) := by
  unfold F_law_sentence
  walk_at "evh"
theorem se_B0 (hd : ¬ 0 < d) (e : N [.rf a, .d (.int 3)] g = some (.int v, g1)) (hv : v < 3) (e2 : N [.rf a, .d (.int 7)] g1 = some (.int u, g2)) (hu : ¬ 0 < u) :
    semG 2 4 (F_law_sentence N Pk S) [.rf a, .d (.int d)] g = some (.tuple [.str "false"], g2) := by
  unfold F_law_sentence
  walk_at "evh"
theorem se_C (hd : 0 < d) (e : N [.rf a, .d (.int 13)] g = some (.int v, g1)) (hv : ¬ v < 3) (hv2 : v < 7) (e2 : Pk [.rf a, .d (.list [.str "not", .str "box", .str "may", .str "box"])] g1 = some (x, g2)) (e3 : S [.rf a, .d (.int (d - 1))] g2 = some (y, g3)) :
    semG 2 4 (F_law_sentence N Pk S) [.rf a, .d (.int d)] g = some (.tuple [x, y], g3) := by
  unfold F_law_sentence
  walk_at "evh"
theorem se_D (hd : 0 < d) (e : N [.rf a, .d (.int 13)] g = some (.int v, g1)) (hv : ¬ v < 3) (hv2 : ¬ v < 7) (e1 : S [.rf a, .d (.int (d - 1))] g1 = some (y, g2)) (e2 : Pk [.rf a, .d (.list [.str "and", .str "or", .str "then", .str "said", .str "said", .str "said"])] g2 = some (x, g3)) (e3 : S [.rf a, .d (.int (d - 1))] g3 = some (z, g4)) :
    semG 2 4 (F_law_sentence N Pk S) [.rf a, .d (.int d)] g = some (.tuple [x, y, z], g4) := by
  unfold F_law_sentence
  walk_at "evh"
end
section
variable {ds : List Int} {aw ad : Addr}
theorem draw_ok (hd : ds.length ≤ 1000000) {m : Int} (hm : 0 < m) (g : Nat) : ∃ (v : Int) (g1 : Nat), semNext ds aw ad [.rf aw, .d (.int m)] g = some (.int v, g1) ∧ 0 ≤ v ∧ v < m := by
  refine ⟨nxt ds g m, g + 1, ?_, ?_⟩
  · unfold semNext
    simp only [hm, hd, and_self, if_true]
    rfl
  · unfold nxt
    split
    · exact ⟨Int.emod_nonneg _ (by omega), Int.emod_lt_of_pos _ hm⟩
    · exact ⟨Int.le_refl 0, hm⟩
theorem pick_ok (hd : ds.length ≤ 1000000) {xs : List PyData} (h0 : xs ≠ []) (g : Nat) : ∃ (x : PyData) (g1 : Nat), S_law_pick ds aw ad [.rf aw, .d (.list xs)] g = some (x, g1) ∧ x ∈ xs := by
  have hp : 0 < xs.length := List.length_pos_iff.mpr h0
  obtain ⟨v, g1, e, v0, v1⟩ := draw_ok (aw := aw) (ad := ad) hd (m := (xs.length : Nat)) (by omega) g
  obtain ⟨k, rfl⟩ : ∃ k : Nat, v = (k : Int) := ⟨v.toNat, by omega⟩
  have hv : k < xs.length := by omega
  refine ⟨xs[k], g1, ?_, List.getElem_mem hv⟩
  unfold S_law_pick
  have e2 : dIx (.list xs) (.int (k : Int)) = some xs[k] := atI_nat (by simp [hv])
  exact pick_gen rfl e e2
theorem sent_ok (hd : ds.length ≤ 1000000) : ∀ (n d : Nat) (g : Nat), d < n → ∃ (s : Sn) (g1 : Nat), S_law_sentence ds aw ad n [.rf aw, .d (.int d)] g = some (enc s, g1) ∧ good s ∧ ht s ≤ d := by
  intro n
  induction n with
  | zero => intro d g h; omega
  | succ n ih =>
    intro d g hn
    rw [S_law_sentence]
    have base : ∀ (g : Nat) (u : Int), 0 < u → ∃ (x : Str) (g1 : Nat), S_law_pick ds aw ad [.rf aw, .d (.list [.str "a", .str "b"])] g = some (.str x, g1) ∧ PyData.strOk x = true := by
      intro g u _
      obtain ⟨x, g1, e, hm⟩ := pick_ok (aw := aw) (ad := ad) hd (xs := [.str "a", .str "b"]) (by simp) g
      have : x = .str "a" ∨ x = .str "b" := by simpa using hm
      rcases this with rfl | rfl
      · exact ⟨_, _, e, by decide +kernel⟩
      · exact ⟨_, _, e, by decide +kernel⟩
    by_cases h0 : 0 < d
    · have h0' : (0 : Int) < (d : Int) := by omega
      obtain ⟨v, g1, e, v0, v1⟩ := draw_ok (aw := aw) (ad := ad) hd (m := 13) (by decide) g
      by_cases hv : v < 3
      · obtain ⟨u, g2, e2, u0, u1⟩ := draw_ok (aw := aw) (ad := ad) hd (m := 7) (by decide) g1
        by_cases hu : 0 < u
        · obtain ⟨x, g3, e3, hx⟩ := base g2 u hu
          exact ⟨.nm x, g3, se_A h0' e hv e2 hu e3, hx, by simp only [ht]; omega⟩
        · exact ⟨.fl, g2, se_B h0' e hv e2 hu, trivial, by simp only [ht]; omega⟩
      · by_cases hv2 : v < 7
        · obtain ⟨x, g2, e2, hm⟩ := pick_ok (aw := aw) (ad := ad) hd (xs := [.str "not", .str "box", .str "may", .str "box"]) (by simp) g1
          obtain ⟨s, g3, e3, hs, hh⟩ := ih (d - 1) g2 (by omega)
          have ed : (((d - 1 : Nat) : Nat) : Int) = (d : Int) - 1 := by omega
          rw [ed] at e3
          have := se_C (G := WG ds aw ad) h0' e hv hv2 e2 e3
          have hm' : x = .str "not" ∨ x = .str "box" ∨ x = .str "may" := by
            simp only [List.mem_cons, List.mem_nil_iff, or_false] at hm
            rcases hm with h | h | h | h <;> simp [h]
          rcases hm' with rfl | rfl | rfl
          · exact ⟨.nt s, g3, this, hs, by simp only [ht]; omega⟩
          · exact ⟨.bx s, g3, this, hs, by simp only [ht]; omega⟩
          · exact ⟨.my s, g3, this, hs, by simp only [ht]; omega⟩
        · obtain ⟨s, g2, e1, hs, hh⟩ := ih (d - 1) g1 (by omega)
          obtain ⟨x, g3, e2, hm⟩ := pick_ok (aw := aw) (ad := ad) hd (xs := [.str "and", .str "or", .str "then", .str "said", .str "said", .str "said"]) (by simp) g2
          obtain ⟨s', g4, e3, hs', hh'⟩ := ih (d - 1) g3 (by omega)
          have ed : (((d - 1 : Nat) : Nat) : Int) = (d : Int) - 1 := by omega
          rw [ed] at e1 e3
          have := se_D (G := WG ds aw ad) h0' e hv hv2 e1 e2 e3
          have hm' : x = .str "and" ∨ x = .str "or" ∨ x = .str "then" ∨ x = .str "said" := by
            simp only [List.mem_cons, List.mem_nil_iff, or_false] at hm
            rcases hm with h | h | h | h | h | h <;> simp [h]
          rcases hm' with rfl | rfl | rfl | rfl
          · exact ⟨.an s s', g4, this, ⟨hs, hs'⟩, by simp only [ht]; omega⟩
          · exact ⟨.or s s', g4, this, ⟨hs, hs'⟩, by simp only [ht]; omega⟩
          · exact ⟨.th s s', g4, this, ⟨hs, hs'⟩, by simp only [ht]; omega⟩
          · exact ⟨.sd s s', g4, this, ⟨hs, hs'⟩, by simp only [ht]; omega⟩
    · have h0' : ¬ (0 : Int) < (d : Int) := by omega
      obtain ⟨v, g1, e, v0, v1⟩ := draw_ok (aw := aw) (ad := ad) hd (m := 3) (by decide) g
      obtain ⟨u, g2, e2, u0, u1⟩ := draw_ok (aw := aw) (ad := ad) hd (m := 7) (by decide) g1
      by_cases hu : 0 < u
      · obtain ⟨x, g3, e3, hx⟩ := base g2 u hu
        exact ⟨.nm x, g3, se_A0 h0' e v1 e2 hu e3, hx, by simp only [ht]; omega⟩
      · exact ⟨.fl, g2, se_B0 h0' e v1 e2 hu, trivial, by simp only [ht]; omega⟩
end
section
variable {G : Gh}
def cA (N : Fs G) : Fl G := (fComp (fRange1 (fCall N (fConsR 0 (fCons (fC (.int 8)) fNil)))) (bName 3) fYes (fTup (fCons (fCall N (fConsR 0 (fCons (fVar 1) fNil))) (fCons (fCall N (fConsR 0 (fCons (fVar 1) fNil))) fNil))) [3])
def cI (N : Fs G) : Fl G := (fComp (fItems (fTup (fCons (fC (.str "a")) (fCons (fC (.str "b")) fNil)))) (bName 5) (fB (f2 dEq (fCall N (fConsR 0 (fCons (fC (.int 2)) fNil))) (fC (.int 0)))) (fVar 5) [5])
def cT (N : Fs G) : Fl G := (fComp (fRange1 (fVar 1)) (bName 4) fYes (fB1 (d1 dTuple1) (fCons (fN (cI N)) fNil)) [4])
variable {N : Fs G} {set : List Ag → Option PyData} {a : Addr} {v : Int} {ls ts : List PyData} {A : PyData} {g g1 g2 g3 : G.T}
theorem world_gen (e : N [.rf a, .d (.int 4)] g = some (.int v, g1)) (e1 : cA N [.rf a, .d (.int (1 + v)), .no, .no, .no, .no] g1 = some (ls, g2)) (e2 : set [.d (.list ls)] = some A)
    (e3 : cT N [.rf a, .d (.int (1 + v)), .d A, .no, .no, .no] g2 = some (ts, g3)) : semG 1 6 (F_law_world N set) [.rf a] g = some (.tuple [.int (1 + v), A, .tuple ts], g3) := by
  show semG 1 6 (sSeq (sSetH [] 1 (f2 dAdd (fC (.int 1)) (fCall N (fConsR 0 (fCons (fC (.int 4)) fNil))))) (sSeq (sSetH [] 2 (fCallP set (fCons (fN (cA N)) fNil))) (sRet (fTup (fCons (fVar 1) (fCons (fVar 2) (fCons (fB1 (d1 dTuple1) (fCons (fN (cT N)) fNil)) fNil))))))) [.rf a] g = _
  walk_at "evh"
theorem ca_elt {m k u u' : Int} (e : N [.rf a, .d (.int m)] g = some (.int u, g1)) (e' : N [.rf a, .d (.int m)] g1 = some (.int u', g2)) : (fTup (fCons (fCall N (fConsR 0 (fCons (fVar 1) fNil))) (fCons (fCall N (fConsR 0 (fCons (fVar 1) fNil))) fNil)) : Fe G) [.rf a, .d (.int m), .no, .d (.int k), .no, .no] g = some (.tuple [.int u, .int u'], g2) := by
  walk_at "evh"
theorem ci_test {m k u : Int} {A x : PyData} (e : N [.rf a, .d (.int 2)] g = some (.int u, g1)) : (fB (f2 dEq (fCall N (fConsR 0 (fCons (fC (.int 2)) fNil))) (fC (.int 0))) : Ft G) [.rf a, .d (.int m), .d A, .no, .d (.int k), .d x] g = some (u == 0, g1) := by
  walk_at "evh"
theorem ct_elt {m k : Int} {A : PyData} (e : cI N [.rf a, .d (.int m), .d A, .no, .d (.int k), .no] g = some (ls, g1)) : (fB1 (d1 dTuple1) (fCons (fN (cI N)) fNil) : Fe G) [.rf a, .d (.int m), .d A, .no, .d (.int k), .no] g = some (.tuple ls, g1) := by
  walk_at "evh"
end
end K75

set_option Elab.async false
set_option linter.all false
set_option maxRecDepth 100000
set_option maxHeartbeats 4000000
namespace K75
open PySem PySem.Spec L2 DL
local macro_rules | `(tactic| walk_at "ev0") => `(tactic| simp only [enter, List.length_cons, List.length_nil, List.replicate, List.cons_append, List.nil_append, sSeq, Nat.zero_add, Nat.reduceAdd, Nat.reduceSub])
local macro_rules | `(tactic| walk_at "ev") => `(tactic| try simp only [semP, semPN, semG, semGN, enter, outR, List.length_cons, List.length_nil, List.replicate, List.cons_append, List.nil_append, sSeq, sIf, sRet, sRetN, sRetO, sSkip, sSetH, sSet, sSetN, sAsgH, sAsg, sApp, sAppH, sDo, hide_nil, hide, hideAux, bName, bTup, bCons, bNil, fVar, fC, f1, f2, fIf, fB, fAnd, fOr, fNot, fAndV, fOrV, fNotV, fN, fTup, fLst, fNil, fCons, fConsR, fSl, fSlL, fPart, fB1, fB1N, fCall, fCallP, fCallPN, fCallN, fItems, wipeE, dSl, cut_1, fSl, fPart, ii_tt, ii_st, ii_ss, ii_tn, ii_tb, ii_ti, ii_ts, ii_bn, ii_bb, ii_bi, ii_bs, ii_in, ii_ib, ii_ii, ii_is, isn_n, isn_b, isn_i, isn_s, isn_t,  fRange1, dItems, mb_some, mb_none, mp_some, mp_none, agD, Option.map_some, Option.map_none, Option.bind_some, d1, d2, l1, dLen_t, dLen_l, dInt1, dAbs1, dTuple1, dIx_t, dIx_l, dEq_int, dEq_np, imm_np, immL_nps, immL_bools, immL_strs, dEq_str, dNe_int, dNe_str, dEq_bool, dNe_bool, dGe_int, dGt_int, dLt_int, dLe_int, dAdd_int, dSub_int, dAddI_int, imm, immL, dIn_str2, dIn_str3, sq_name_name, sq_name_false, sq_name_said, sq_name_box, sq_name_may, sq_name_not, sq_name_and, sq_name_or, sq_name_then, sq_false_name, sq_false_false, sq_false_said, sq_false_box, sq_false_may, sq_false_not, sq_false_and, sq_false_or, sq_false_then, sq_said_name, sq_said_false, sq_said_said, sq_said_box, sq_said_may, sq_said_not, sq_said_and, sq_said_or, sq_said_then, sq_box_name, sq_box_false, sq_box_said, sq_box_box, sq_box_may, sq_box_not, sq_box_and, sq_box_or, sq_box_then, sq_may_name, sq_may_false, sq_may_said, sq_may_box, sq_may_may, sq_may_not, sq_may_and, sq_may_or, sq_may_then, sq_not_name, sq_not_false, sq_not_said, sq_not_box, sq_not_may, sq_not_not, sq_not_and, sq_not_or, sq_not_then, sq_and_name, sq_and_false, sq_and_said, sq_and_box, sq_and_may, sq_and_not, sq_and_and, sq_and_or, sq_and_then, sq_or_name, sq_or_false, sq_or_said, sq_or_box, sq_or_may, sq_or_not, sq_or_and, sq_or_or, sq_or_then, sq_then_name, sq_then_false, sq_then_said, sq_then_box, sq_then_may, sq_then_not, sq_then_and, sq_then_or, sq_then_then, atI_0, atI_1, atI_2, atI_3, List.getElem?_cons_zero, List.getElem?_cons_succ, List.set_cons_zero, List.set_cons_succ, if_true, if_false, Bool.false_eq_true, reduceIte, decide_true, decide_false, true_and, and_true, and_self, not_true_eq_false, not_false_eq_true, Nat.zero_add, Nat.reduceAdd, Nat.reduceSub, Nat.reduceEqDiff, List.contains_cons, List.contains_nil, Nat.reduceBEq, Bool.or_false, Bool.false_or, Bool.true_or, Bool.or_true, Bool.and_true, Bool.true_and, Bool.not_true, Bool.not_false, fM, dTuple1, sl0, sl1, sl2, sl3, sl4, sl5, sl6, sl7, sl8, sl9, sl10, sl11, sl12, Nat.reduceLeDiff])
local macro_rules | `(tactic| walk_at "evh") => `(tactic| try simp only [semP, semPN, semG, semGN, enter, outR, List.length_cons, List.length_nil, List.replicate, List.cons_append, List.nil_append, sSeq, sIf, sRet, sRetN, sRetO, sSkip, sSetH, sSet, sSetN, sAsgH, sAsg, sApp, sAppH, sDo, hide_nil, hide, hideAux, bName, bTup, bCons, bNil, fVar, fC, f1, f2, fIf, fB, fAnd, fOr, fNot, fAndV, fOrV, fNotV, fN, fTup, fLst, fNil, fCons, fConsR, fSl, fSlL, fPart, fB1, fB1N, fCall, fCallP, fCallPN, fCallN, fItems, wipeE, dSl, cut_1, fSl, fPart, ii_tt, ii_st, ii_ss, ii_tn, ii_tb, ii_ti, ii_ts, ii_bn, ii_bb, ii_bi, ii_bs, ii_in, ii_ib, ii_ii, ii_is, isn_n, isn_b, isn_i, isn_s, isn_t,  fRange1, dItems, mb_some, mb_none, mp_some, mp_none, agD, Option.map_some, Option.map_none, Option.bind_some, d1, d2, l1, dLen_t, dLen_l, dInt1, dAbs1, dTuple1, dIx_t, dIx_l, dEq_int, dEq_np, imm_np, immL_nps, immL_bools, immL_strs, dEq_str, dNe_int, dNe_str, dEq_bool, dNe_bool, dGe_int, dGt_int, dLt_int, dLe_int, dAdd_int, dSub_int, dAddI_int, imm, immL, dIn_str2, dIn_str3, sq_name_name, sq_name_false, sq_name_said, sq_name_box, sq_name_may, sq_name_not, sq_name_and, sq_name_or, sq_name_then, sq_false_name, sq_false_false, sq_false_said, sq_false_box, sq_false_may, sq_false_not, sq_false_and, sq_false_or, sq_false_then, sq_said_name, sq_said_false, sq_said_said, sq_said_box, sq_said_may, sq_said_not, sq_said_and, sq_said_or, sq_said_then, sq_box_name, sq_box_false, sq_box_said, sq_box_box, sq_box_may, sq_box_not, sq_box_and, sq_box_or, sq_box_then, sq_may_name, sq_may_false, sq_may_said, sq_may_box, sq_may_may, sq_may_not, sq_may_and, sq_may_or, sq_may_then, sq_not_name, sq_not_false, sq_not_said, sq_not_box, sq_not_may, sq_not_not, sq_not_and, sq_not_or, sq_not_then, sq_and_name, sq_and_false, sq_and_said, sq_and_box, sq_and_may, sq_and_not, sq_and_and, sq_and_or, sq_and_then, sq_or_name, sq_or_false, sq_or_said, sq_or_box, sq_or_may, sq_or_not, sq_or_and, sq_or_or, sq_or_then, sq_then_name, sq_then_false, sq_then_said, sq_then_box, sq_then_may, sq_then_not, sq_then_and, sq_then_or, sq_then_then, atI_0, atI_1, atI_2, atI_3, List.getElem?_cons_zero, List.getElem?_cons_succ, List.set_cons_zero, List.set_cons_succ, if_true, if_false, Bool.false_eq_true, reduceIte, decide_true, decide_false, true_and, and_true, and_self, not_true_eq_false, not_false_eq_true, Nat.zero_add, Nat.reduceAdd, Nat.reduceSub, Nat.reduceEqDiff, List.contains_cons, List.contains_nil, Nat.reduceBEq, Bool.or_false, Bool.false_or, Bool.true_or, Bool.or_true, Bool.and_true, Bool.true_and, Bool.not_true, Bool.not_false, fM, dTuple1, sl0, sl1, sl2, sl3, sl4, sl5, sl6, sl7, sl8, sl9, sl10, sl11, sl12, Nat.reduceLeDiff, *])






local macro_rules | `(tactic| walk_at "evw") => `(tactic| try simp only [semP, semPN, semG, semGN, enter, outR, List.length_cons, List.length_nil, List.replicate, List.cons_append, List.nil_append, sSeq, sIf, sRet, sRetN, sRetO, sSkip, sSetH, sSet, sSetN, sAsgH, sAsg, sApp, sAppH, sDo, hide_nil, hide, hideAux, bName, bTup, bCons, bNil, fVar, fC, f1, f2, fIf, fB, fAnd, fOr, fNot, fAndV, fOrV, fNotV, fN, fTup, fLst, fNil, fCons, fConsR, fSl, fSlL, fPart, fB1, fB1N, fCall, fCallP, fCallPN, fCallN, fItems, wipeE, dSl, cut_1, fSl, fPart, ii_tt, ii_st, ii_ss, ii_tn, ii_tb, ii_ti, ii_ts, ii_bn, ii_bb, ii_bi, ii_bs, ii_in, ii_ib, ii_ii, ii_is, isn_n, isn_b, isn_i, isn_s, isn_t,  fRange1, dItems, mb_some, mb_none, mp_some, mp_none, agD, Option.map_some, Option.map_none, Option.bind_some, d1, d2, l1,  dInt1, dAbs1, dTuple1, dIx_t, dIx_l, dEq_int, dEq_np, imm_np, immL_nps, immL_bools, immL_strs, dEq_str, dNe_int, dNe_str, dEq_bool, dNe_bool, dGe_int, dGt_int, dLt_int, dLe_int, dAdd_int, dSub_int, dAddI_int, imm, immL, dIn_str2, dIn_str3, sq_name_name, sq_name_false, sq_name_said, sq_name_box, sq_name_may, sq_name_not, sq_name_and, sq_name_or, sq_name_then, sq_false_name, sq_false_false, sq_false_said, sq_false_box, sq_false_may, sq_false_not, sq_false_and, sq_false_or, sq_false_then, sq_said_name, sq_said_false, sq_said_said, sq_said_box, sq_said_may, sq_said_not, sq_said_and, sq_said_or, sq_said_then, sq_box_name, sq_box_false, sq_box_said, sq_box_box, sq_box_may, sq_box_not, sq_box_and, sq_box_or, sq_box_then, sq_may_name, sq_may_false, sq_may_said, sq_may_box, sq_may_may, sq_may_not, sq_may_and, sq_may_or, sq_may_then, sq_not_name, sq_not_false, sq_not_said, sq_not_box, sq_not_may, sq_not_not, sq_not_and, sq_not_or, sq_not_then, sq_and_name, sq_and_false, sq_and_said, sq_and_box, sq_and_may, sq_and_not, sq_and_and, sq_and_or, sq_and_then, sq_or_name, sq_or_false, sq_or_said, sq_or_box, sq_or_may, sq_or_not, sq_or_and, sq_or_or, sq_or_then, sq_then_name, sq_then_false, sq_then_said, sq_then_box, sq_then_may, sq_then_not, sq_then_and, sq_then_or, sq_then_then, atI_0, atI_1, atI_2, atI_3, List.getElem?_cons_zero, List.getElem?_cons_succ, List.set_cons_zero, List.set_cons_succ, if_true, if_false, Bool.false_eq_true, reduceIte, decide_true, decide_false, true_and, and_true, and_self, not_true_eq_false, not_false_eq_true, Nat.zero_add, Nat.reduceAdd, Nat.reduceSub, Nat.reduceEqDiff, List.contains_cons, List.contains_nil, Nat.reduceBEq, Bool.or_false, Bool.false_or, Bool.true_or, Bool.or_true, Bool.and_true, Bool.true_and, Bool.not_true, Bool.not_false, fM, dTuple1, sl0, sl1, sl2, sl3, sl4, sl5, sl6, sl7, sl8, sl9, sl10, sl11, sl12, Nat.reduceLeDiff, *])









theorem pull {α : Type} {e : α → PyData} {P : α → Prop} : ∀ (ys : List PyData), (∀ y ∈ ys, ∃ q, y = e q ∧ P q) → ∃ qs : List α, ys = qs.map e ∧ ∀ q ∈ qs, P q
  | [], _ => ⟨[], rfl, fun q hq => by cases hq⟩
  | y :: ys, h => by
    obtain ⟨q, rfl, hq⟩ := h y List.mem_cons_self
    obtain ⟨qs, rfl, hqs⟩ := pull ys fun z hz => h z (List.mem_cons_of_mem _ hz)
    refine ⟨q :: qs, rfl, fun z hz => ?_⟩
    rcases List.mem_cons.mp hz with rfl | hz
    · exact hq
    · exact hqs z hz
theorem call_np {G : Gh} {N : Fs G} {a : Addr} {m : Int} {u : PyData} {r : En} {g g1 : G.T} (e : N [.rf a, .d (.int m)] g = some (u, g1)) : (fCall N (fConsR 0 (fCons (fC (.int m)) fNil)) : Fe G) (.rf a :: r) g = some (u, g1) := by
  walk_at "evh"
section
variable {ds : List Int} {aw ad : Addr}
theorem arrows_ok (hd : ds.length ≤ 1000000) {n : Nat} (hn : 0 < n) (g : Nat) : ∃ (qs : List (Nat × Nat)) (g1 : Nat), cA (G := WG ds aw ad) (semNext ds aw ad) [.rf aw, .d (np n), .no, .no, .no, .no] g = some (qs.map pr, g1) ∧ (∀ q ∈ qs, q.1 < n ∧ q.2 < n) ∧ qs.length ≤ 1000 := by
  obtain ⟨u, g1, e, u0, u1⟩ := draw_ok (aw := aw) (ad := ad) hd (m := 8) (by decide) g
  obtain ⟨k, rfl⟩ : ∃ k : Nat, u = (k : Int) := ⟨u.toNat, by omega⟩
  have r : fRange1 (G := WG ds aw ad) (fCall (semNext ds aw ad) (fConsR 0 (fCons (fC (.int 8)) fNil))) (.rf aw :: [.d (np n), .no, .no, .no, .no]) g = some ((List.range k).map np, g1) := range_np (call_np (G := WG ds aw ad) e) (by omega)
  obtain ⟨ys, g2, h1, h2, h3⟩ := compF_all (T := Nat) (bd := bName 3) (fe := (fTup (fCons (fCall (semNext ds aw ad) (fConsR 0 (fCons (fVar 1) fNil))) (fCons (fCall (semNext ds aw ad) (fConsR 0 (fCons (fVar 1) fNil))) fNil)) : Fe (WG ds aw ad))) (ρ := [.rf aw, .d (np n), .no, .no, .no, .no]) (P := fun y => ∃ q : Nat × Nat, y = pr q ∧ (q.1 < n ∧ q.2 < n)) np (List.range k) (fun x hx g => by
    obtain ⟨v, g1, e1, v0, v1⟩ := draw_ok (aw := aw) (ad := ad) hd (m := (n : Int)) (by omega) g
    obtain ⟨v', g2, e2, v0', v1'⟩ := draw_ok (aw := aw) (ad := ad) hd (m := (n : Int)) (by omega) g1
    obtain ⟨i, rfl⟩ : ∃ k : Nat, v = (k : Int) := ⟨v.toNat, by omega⟩
    obtain ⟨j, rfl⟩ : ∃ k : Nat, v' = (k : Int) := ⟨v'.toNat, by omega⟩
    exact ⟨[.rf aw, .d (np n), .no, .d (np x), .no, .no], rfl, pr (i, j), g2, ca_elt (G := WG ds aw ad) (k := (x : Int)) e1 e2, (i, j), rfl, by omega, by omega⟩) g1
  obtain ⟨qs, rfl, hq⟩ := pull ys h3
  refine ⟨qs, g2, ?_, hq, ?_⟩
  · unfold cA fComp
    rw [r]
    exact h1
  · rw [List.length_map, List.length_range] at h2
    omega
theorem truths_ok (hd : ds.length ≤ 1000000) {n : Nat} (hn : n ≤ 1000) (A : PyData) (g : Nat) : ∃ (tr : List (List Str)) (g1 : Nat), cT (G := WG ds aw ad) (semNext ds aw ad) [.rf aw, .d (np n), .d A, .no, .no, .no] g = some (tr.map tD, g1) ∧ tr.length = n ∧ ∀ t ∈ tr, t.length ≤ 1000 := by
  have r : fRange1 (G := WG ds aw ad) (fVar 1) [.rf aw, .d (np n), .d A, .no, .no, .no] g = some ((List.range n).map np, g) := range_np rfl (by omega)
  obtain ⟨ys, g2, h1, h2, h3⟩ := compF_all (T := Nat) (bd := bName 4) (fe := (fB1 (d1 dTuple1) (fCons (fN (cI (semNext ds aw ad))) fNil) : Fe (WG ds aw ad))) (ρ := [.rf aw, .d (np n), .d A, .no, .no, .no]) (P := fun y => ∃ t : List Str, y = tD t ∧ t.length ≤ 1000) np (List.range n) (fun x hx g => by
    obtain ⟨zs, g1, e1, e2, e3⟩ := compF_run (T := Nat) (bd := bName 5) (ft := (fB (f2 dEq (fCall (semNext ds aw ad) (fConsR 0 (fCons (fC (.int 2)) fNil))) (fC (.int 0))) : Ft (WG ds aw ad))) (fe := (fVar 5 : Fe (WG ds aw ad))) (ρ := [.rf aw, .d (np n), .d A, .no, .d (np x), .no]) (P := fun (s : Str) y => y = .str s) PyData.str ["a", "b"] (fun s hs g => by
      obtain ⟨u, g1, e, u0, u1⟩ := draw_ok (aw := aw) (ad := ad) hd (m := 2) (by decide) g
      exact ⟨[.rf aw, .d (np n), .d A, .no, .d (np x), .d (.str s)], rfl, _, g1, ci_test (G := WG ds aw ad) (m := (n : Int)) (k := (x : Int)) e, fun _ => ⟨.str s, g1, rfl, rfl⟩⟩) g
    obtain ⟨t, rfl, _⟩ := pull (e := PyData.str) (P := fun _ => True) zs fun y hy => by
      obtain ⟨s, _, rfl⟩ := e3 y hy
      exact ⟨s, rfl, trivial⟩
    have ei : cI (G := WG ds aw ad) (semNext ds aw ad) [.rf aw, .d (np n), .d A, .no, .d (np x), .no] g = some (t.map .str, g1) := by
      unfold cI fComp
      have rr : (fItems (fTup (fCons (fC (.str "a")) (fCons (fC (.str "b")) fNil))) : Fl (WG ds aw ad)) [.rf aw, .d (np n), .d A, .no, .d (np x), .no] g = some ((["a", "b"] : List Str).map PyData.str, g) := by
        walk_at "evh"
        rfl
      rw [rr]
      exact e1
    refine ⟨[.rf aw, .d (np n), .d A, .no, .d (np x), .no], rfl, .tuple (t.map .str), g1, ct_elt (G := WG ds aw ad) (m := (n : Int)) (k := (x : Int)) ei, t, rfl, ?_⟩
    rw [List.length_map] at e2
    have : (["a", "b"] : List Str).length = 2 := rfl
    omega) g
  obtain ⟨tr, rfl, ht⟩ := pull ys h3
  refine ⟨tr, g2, ?_, ?_, ht⟩
  · unfold cT fComp
    rw [r]
    exact h1
  · rw [List.length_map, List.length_range] at h2
    exact h2
theorem world_ok (hd : ds.length ≤ 1000000) (g : Nat) : ∃ (w : W) (g1 : Nat), S_law_world ds aw ad [.rf aw] g = some (encW w, g1) ∧ WF w ∧ ∀ t ∈ w.tr, t.length ≤ 1000 := by
  obtain ⟨v, g1, e, v0, v1⟩ := draw_ok (aw := aw) (ad := ad) hd (m := 4) (by decide) g
  obtain ⟨n, hn⟩ : ∃ n : Nat, 1 + v = (n : Int) := ⟨(1 + v).toNat, by omega⟩
  obtain ⟨qs, g2, e1, hq, hql⟩ := arrows_ok (aw := aw) (ad := ad) hd (n := n) (by omega) g1
  obtain ⟨rs, e2, r1, r2, r3⟩ := set_any qs hql
  obtain ⟨tr, g3, e3, t1, t2⟩ := truths_ok (aw := aw) (ad := ad) hd (n := n) (by omega) (.tuple (rs.map pr)) g2
  refine ⟨⟨n, rs, tr⟩, g3, ?_, ⟨t1, fun q hm => hq q (r2 q hm), r1, ⟨by show n ≤ 1000; omega, r3⟩⟩, t2⟩
  have := world_gen (G := WG ds aw ad) (set := S_law_set) e (by rw [hn]; exact e1) e2 (by rw [hn]; exact e3)
  rw [hn] at this
  exact this
end
section
variable {G : Gh}
def B3 (lt al ts : List Ag → Option PyData) : Fst G := (sSeq (sSetH [] 10 (fCallP lt (fCons (fVar 7) (fCons (fVar 8) (fCons (fVar 9) (fCons (fVar 4) fNil)))))) (sIf (fOr (fNot (fB (fCallP al (fCons (fCallP ts (fCons (fVar 7) (fCons (fVar 9) (fCons (fVar 4) fNil)))) (fCons (fVar 10) fNil))))) (fB (f2 dNe (fCallP lt (fCons (fVar 7) (fCons (fVar 8) (fCons (fVar 9) (fCons (fVar 5) fNil))))) (fVar 10)))) (sRet (fC (.bool false))) sSkip))
def I4 (al ws le : List Ag → Option PyData) : Fst G := (sIf (fNot (fB (fCallP al (fCons (fCallP ws (fCons (fVar 7) (fCons (fVar 4) fNil))) (fCons (fCallP le (fCons (fVar 7) (fCons (fVar 4) fNil))) fNil))))) (sRet (fC (.bool false))) sSkip)
def B2 (wd : Fs G) (lt al ts ws le : List Ag → Option PyData) : Fst G := (sSeq (sSetH [] 7 (fCall wd (fConsR 1 fNil))) (sSeq (sSetH [] 8 (fN (fRangeL (f2 dIx (fVar 7) (fC (.int 0)))))) (sSeq (sForH [] (fItems (fVar 8)) (bName 9) (B3 lt al ts)) (I4 al ws le))))
def B1 (sn wd : Fs G) (wo iw lt al ts ws le : List Ag → Option PyData) : Fst G := (sSeq (sSetH [] 4 (fCall sn (fConsR 1 (fCons (fC (.int 3)) fNil)))) (sSeq (sSetH [] 5 (fCallP wo (fCons (fVar 4) fNil))) (sSeq (sIf (fNot (fB (fCallP iw (fCons (fVar 5) fNil)))) (sRet (fC (.bool false))) sSkip) (sForH [] (fRange1 (fC (.int 4))) (bName 6) (B2 wd lt al ts ws le)))))
variable {lt al ts ws le wo iw : List Ag → Option PyData} {sn wd : Fs G} {N s pl w h p d : PyData} {a : Addr} {x2 x3 x4 x5 x6 x7 x8 x9 x10 : Ag} {b : Bool} {g g1 : G.T}
theorem b3_gen (e1 : lt [.d w, .d h, .d p, .d s] = some (.bool b)) (e2 : ts [.d w, .d p, .d s] = some (.bool b)) (e3 : al [.d (.bool b), .d (.bool b)] = some (.bool true)) (e4 : lt [.d w, .d h, .d p, .d pl] = some (.bool b)) (q : (b == b) = true) :
    (B3 lt al ts : Fst G) [.d N, .rf a, x2, x3, .d s, .d pl, x6, .d w, .d h, .d p, x10] g = some (.nx [.d N, .rf a, x2, x3, .d s, .d pl, x6, .d w, .d h, .d p, .d (.bool b)] g) := by
  unfold B3
  walk_at "evh"
theorem i4_gen (e1 : ws [.d w, .d s] = some d) (e2 : le [.d w, .d s] = some d) (e3 : al [.d d, .d d] = some (.bool true)) :
    (I4 al ws le : Fst G) [.d N, .rf a, x2, x3, .d s, x5, x6, .d w, x8, x9, x10] g = some (.nx [.d N, .rf a, x2, x3, .d s, x5, x6, .d w, x8, x9, x10] g) := by
  unfold I4
  walk_at "evh"
theorem s7_gen (e : wd [.rf a] g = some (w, g1)) : (sSetH [] 7 (fCall wd (fConsR 1 fNil)) : Fst G) [.d N, .rf a, x2, x3, x4, x5, x6, x7, x8, x9, x10] g = some (.nx [.d N, .rf a, x2, x3, x4, x5, x6, .d w, x8, x9, x10] g1) := by
  walk_at "evh"
theorem s8_gen {ls : List PyData} (e : (fRangeL (f2 dIx (fVar 7) (fC (.int 0))) : Fl G) [.d N, .rf a, x2, x3, x4, x5, x6, x7, x8, x9, x10] g = some (ls, g1)) : (sSetH [] 8 (fN (fRangeL (f2 dIx (fVar 7) (fC (.int 0))))) : Fst G) [.d N, .rf a, x2, x3, x4, x5, x6, x7, x8, x9, x10] g = some (.nx [.d N, .rf a, x2, x3, x4, x5, x6, x7, .d (.list ls), x9, x10] g1) := by
  walk_at "evh"
theorem s4_gen (e : sn [.rf a, .d (.int 3)] g = some (s, g1)) : (sSetH [] 4 (fCall sn (fConsR 1 (fCons (fC (.int 3)) fNil))) : Fst G) [.d N, .rf a, x2, x3, x4, x5, x6, x7, x8, x9, x10] g = some (.nx [.d N, .rf a, x2, x3, .d s, x5, x6, x7, x8, x9, x10] g1) := by
  walk_at "evh"
theorem s5_gen (e : wo [.d s] = some pl) : (sSetH [] 5 (fCallP wo (fCons (fVar 4) fNil)) : Fst G) [.d N, .rf a, x2, x3, .d s, x5, x6, x7, x8, x9, x10] g = some (.nx [.d N, .rf a, x2, x3, .d s, .d pl, x6, x7, x8, x9, x10] g) := by
  walk_at "evh"
theorem i5_gen (e : iw [.d pl] = some (.bool true)) : (sIf (fNot (fB (fCallP iw (fCons (fVar 5) fNil)))) (sRet (fC (.bool false))) sSkip : Fst G) [.d N, .rf a, x2, x3, x4, .d pl, x6, x7, x8, x9, x10] g = some (.nx [.d N, .rf a, x2, x3, x4, .d pl, x6, x7, x8, x9, x10] g) := by
  walk_at "evh"
theorem items8 {ls : List PyData} : (fItems (fVar 8) : Fl G) (hide [] [.d N, .rf a, x2, x3, x4, x5, x6, x7, .d (.list ls), x9, x10]) g = some (ls, g) := by
  walk_at "evh"
theorem four {r : En} : (fRange1 (fC (.int 4)) : Fl G) r g = some ((List.range 4).map np, g) := range_np (n := 4) rfl (by decide)
end
end K75

set_option Elab.async false
set_option linter.all false
set_option maxRecDepth 100000
set_option maxHeartbeats 4000000
namespace K75
open PySem PySem.Spec L2 DL
local macro_rules | `(tactic| walk_at "ev0") => `(tactic| simp only [enter, List.length_cons, List.length_nil, List.replicate, List.cons_append, List.nil_append, sSeq, Nat.zero_add, Nat.reduceAdd, Nat.reduceSub])
local macro_rules | `(tactic| walk_at "ev") => `(tactic| try simp only [semP, semPN, semG, semGN, enter, outR, List.length_cons, List.length_nil, List.replicate, List.cons_append, List.nil_append, sSeq, sIf, sRet, sRetN, sRetO, sSkip, sSetH, sSet, sSetN, sAsgH, sAsg, sApp, sAppH, sDo, hide_nil, hide, hideAux, bName, bTup, bCons, bNil, fVar, fC, f1, f2, fIf, fB, fAnd, fOr, fNot, fAndV, fOrV, fNotV, fN, fTup, fLst, fNil, fCons, fConsR, fSl, fSlL, fPart, fB1, fB1N, fCall, fCallP, fCallPN, fCallN, fItems, wipeE, dSl, cut_1, fSl, fPart, ii_tt, ii_st, ii_ss, ii_tn, ii_tb, ii_ti, ii_ts, ii_bn, ii_bb, ii_bi, ii_bs, ii_in, ii_ib, ii_ii, ii_is, isn_n, isn_b, isn_i, isn_s, isn_t,  fRange1, dItems, mb_some, mb_none, mp_some, mp_none, agD, Option.map_some, Option.map_none, Option.bind_some, d1, d2, l1, dLen_t, dLen_l, dInt1, dAbs1, dTuple1, dIx_t, dIx_l, dEq_int, dEq_np, imm_np, immL_nps, immL_bools, immL_strs, dEq_str, dNe_int, dNe_str, dEq_bool, dNe_bool, dGe_int, dGt_int, dLt_int, dLe_int, dAdd_int, dSub_int, dAddI_int, imm, immL, dIn_str2, dIn_str3, sq_name_name, sq_name_false, sq_name_said, sq_name_box, sq_name_may, sq_name_not, sq_name_and, sq_name_or, sq_name_then, sq_false_name, sq_false_false, sq_false_said, sq_false_box, sq_false_may, sq_false_not, sq_false_and, sq_false_or, sq_false_then, sq_said_name, sq_said_false, sq_said_said, sq_said_box, sq_said_may, sq_said_not, sq_said_and, sq_said_or, sq_said_then, sq_box_name, sq_box_false, sq_box_said, sq_box_box, sq_box_may, sq_box_not, sq_box_and, sq_box_or, sq_box_then, sq_may_name, sq_may_false, sq_may_said, sq_may_box, sq_may_may, sq_may_not, sq_may_and, sq_may_or, sq_may_then, sq_not_name, sq_not_false, sq_not_said, sq_not_box, sq_not_may, sq_not_not, sq_not_and, sq_not_or, sq_not_then, sq_and_name, sq_and_false, sq_and_said, sq_and_box, sq_and_may, sq_and_not, sq_and_and, sq_and_or, sq_and_then, sq_or_name, sq_or_false, sq_or_said, sq_or_box, sq_or_may, sq_or_not, sq_or_and, sq_or_or, sq_or_then, sq_then_name, sq_then_false, sq_then_said, sq_then_box, sq_then_may, sq_then_not, sq_then_and, sq_then_or, sq_then_then, atI_0, atI_1, atI_2, atI_3, List.getElem?_cons_zero, List.getElem?_cons_succ, List.set_cons_zero, List.set_cons_succ, if_true, if_false, Bool.false_eq_true, reduceIte, decide_true, decide_false, true_and, and_true, and_self, not_true_eq_false, not_false_eq_true, Nat.zero_add, Nat.reduceAdd, Nat.reduceSub, Nat.reduceEqDiff, List.contains_cons, List.contains_nil, Nat.reduceBEq, Bool.or_false, Bool.false_or, Bool.true_or, Bool.or_true, Bool.and_true, Bool.true_and, Bool.not_true, Bool.not_false, fM, dTuple1, sl0, sl1, sl2, sl3, sl4, sl5, sl6, sl7, sl8, sl9, sl10, sl11, sl12, Nat.reduceLeDiff])
local macro_rules | `(tactic| walk_at "evh") => `(tactic| try simp only [semP, semPN, semG, semGN, enter, outR, List.length_cons, List.length_nil, List.replicate, List.cons_append, List.nil_append, sSeq, sIf, sRet, sRetN, sRetO, sSkip, sSetH, sSet, sSetN, sAsgH, sAsg, sApp, sAppH, sDo, hide_nil, hide, hideAux, bName, bTup, bCons, bNil, fVar, fC, f1, f2, fIf, fB, fAnd, fOr, fNot, fAndV, fOrV, fNotV, fN, fTup, fLst, fNil, fCons, fConsR, fSl, fSlL, fPart, fB1, fB1N, fCall, fCallP, fCallPN, fCallN, fItems, wipeE, dSl, cut_1, fSl, fPart, ii_tt, ii_st, ii_ss, ii_tn, ii_tb, ii_ti, ii_ts, ii_bn, ii_bb, ii_bi, ii_bs, ii_in, ii_ib, ii_ii, ii_is, isn_n, isn_b, isn_i, isn_s, isn_t,  fRange1, dItems, mb_some, mb_none, mp_some, mp_none, agD, Option.map_some, Option.map_none, Option.bind_some, d1, d2, l1, dLen_t, dLen_l, dInt1, dAbs1, dTuple1, dIx_t, dIx_l, dEq_int, dEq_np, imm_np, immL_nps, immL_bools, immL_strs, dEq_str, dNe_int, dNe_str, dEq_bool, dNe_bool, dGe_int, dGt_int, dLt_int, dLe_int, dAdd_int, dSub_int, dAddI_int, imm, immL, dIn_str2, dIn_str3, sq_name_name, sq_name_false, sq_name_said, sq_name_box, sq_name_may, sq_name_not, sq_name_and, sq_name_or, sq_name_then, sq_false_name, sq_false_false, sq_false_said, sq_false_box, sq_false_may, sq_false_not, sq_false_and, sq_false_or, sq_false_then, sq_said_name, sq_said_false, sq_said_said, sq_said_box, sq_said_may, sq_said_not, sq_said_and, sq_said_or, sq_said_then, sq_box_name, sq_box_false, sq_box_said, sq_box_box, sq_box_may, sq_box_not, sq_box_and, sq_box_or, sq_box_then, sq_may_name, sq_may_false, sq_may_said, sq_may_box, sq_may_may, sq_may_not, sq_may_and, sq_may_or, sq_may_then, sq_not_name, sq_not_false, sq_not_said, sq_not_box, sq_not_may, sq_not_not, sq_not_and, sq_not_or, sq_not_then, sq_and_name, sq_and_false, sq_and_said, sq_and_box, sq_and_may, sq_and_not, sq_and_and, sq_and_or, sq_and_then, sq_or_name, sq_or_false, sq_or_said, sq_or_box, sq_or_may, sq_or_not, sq_or_and, sq_or_or, sq_or_then, sq_then_name, sq_then_false, sq_then_said, sq_then_box, sq_then_may, sq_then_not, sq_then_and, sq_then_or, sq_then_then, atI_0, atI_1, atI_2, atI_3, List.getElem?_cons_zero, List.getElem?_cons_succ, List.set_cons_zero, List.set_cons_succ, if_true, if_false, Bool.false_eq_true, reduceIte, decide_true, decide_false, true_and, and_true, and_self, not_true_eq_false, not_false_eq_true, Nat.zero_add, Nat.reduceAdd, Nat.reduceSub, Nat.reduceEqDiff, List.contains_cons, List.contains_nil, Nat.reduceBEq, Bool.or_false, Bool.false_or, Bool.true_or, Bool.or_true, Bool.and_true, Bool.true_and, Bool.not_true, Bool.not_false, fM, dTuple1, sl0, sl1, sl2, sl3, sl4, sl5, sl6, sl7, sl8, sl9, sl10, sl11, sl12, Nat.reduceLeDiff, *])






local macro_rules | `(tactic| walk_at "evw") => `(tactic| try simp only [semP, semPN, semG, semGN, enter, outR, List.length_cons, List.length_nil, List.replicate, List.cons_append, List.nil_append, sSeq, sIf, sRet, sRetN, sRetO, sSkip, sSetH, sSet, sSetN, sAsgH, sAsg, sApp, sAppH, sDo, hide_nil, hide, hideAux, bName, bTup, bCons, bNil, fVar, fC, f1, f2, fIf, fB, fAnd, fOr, fNot, fAndV, fOrV, fNotV, fN, fTup, fLst, fNil, fCons, fConsR, fSl, fSlL, fPart, fB1, fB1N, fCall, fCallP, fCallPN, fCallN, fItems, wipeE, dSl, cut_1, fSl, fPart, ii_tt, ii_st, ii_ss, ii_tn, ii_tb, ii_ti, ii_ts, ii_bn, ii_bb, ii_bi, ii_bs, ii_in, ii_ib, ii_ii, ii_is, isn_n, isn_b, isn_i, isn_s, isn_t,  fRange1, dItems, mb_some, mb_none, mp_some, mp_none, agD, Option.map_some, Option.map_none, Option.bind_some, d1, d2, l1,  dInt1, dAbs1, dTuple1, dIx_t, dIx_l, dEq_int, dEq_np, imm_np, immL_nps, immL_bools, immL_strs, dEq_str, dNe_int, dNe_str, dEq_bool, dNe_bool, dGe_int, dGt_int, dLt_int, dLe_int, dAdd_int, dSub_int, dAddI_int, imm, immL, dIn_str2, dIn_str3, sq_name_name, sq_name_false, sq_name_said, sq_name_box, sq_name_may, sq_name_not, sq_name_and, sq_name_or, sq_name_then, sq_false_name, sq_false_false, sq_false_said, sq_false_box, sq_false_may, sq_false_not, sq_false_and, sq_false_or, sq_false_then, sq_said_name, sq_said_false, sq_said_said, sq_said_box, sq_said_may, sq_said_not, sq_said_and, sq_said_or, sq_said_then, sq_box_name, sq_box_false, sq_box_said, sq_box_box, sq_box_may, sq_box_not, sq_box_and, sq_box_or, sq_box_then, sq_may_name, sq_may_false, sq_may_said, sq_may_box, sq_may_may, sq_may_not, sq_may_and, sq_may_or, sq_may_then, sq_not_name, sq_not_false, sq_not_said, sq_not_box, sq_not_may, sq_not_not, sq_not_and, sq_not_or, sq_not_then, sq_and_name, sq_and_false, sq_and_said, sq_and_box, sq_and_may, sq_and_not, sq_and_and, sq_and_or, sq_and_then, sq_or_name, sq_or_false, sq_or_said, sq_or_box, sq_or_may, sq_or_not, sq_or_and, sq_or_or, sq_or_then, sq_then_name, sq_then_false, sq_then_said, sq_then_box, sq_then_may, sq_then_not, sq_then_and, sq_then_or, sq_then_then, atI_0, atI_1, atI_2, atI_3, List.getElem?_cons_zero, List.getElem?_cons_succ, List.set_cons_zero, List.set_cons_succ, if_true, if_false, Bool.false_eq_true, reduceIte, decide_true, decide_false, true_and, and_true, and_self, not_true_eq_false, not_false_eq_true, Nat.zero_add, Nat.reduceAdd, Nat.reduceSub, Nat.reduceEqDiff, List.contains_cons, List.contains_nil, Nat.reduceBEq, Bool.or_false, Bool.false_or, Bool.true_or, Bool.or_true, Bool.and_true, Bool.true_and, Bool.not_true, Bool.not_false, fM, dTuple1, sl0, sl1, sl2, sl3, sl4, sl5, sl6, sl7, sl8, sl9, sl10, sl11, sl12, Nat.reduceLeDiff, *])










theorem pts_congr {f g : Nat → Bool} {n : Nat} (h : ∀ q, q < n → f q = g q) : pts f n = pts g n := List.filter_congr fun q hq => h q (List.mem_range.mp hq)
section
variable {G : Gh}
def LS (ts al : List Ag → Option PyData) : Fst G := (sSeq (sSetH [] 3 (fTup (fCons (fC (.str "said")) (fCons (fTup (fCons (fC (.str "may")) (fCons (fTup (fCons (fC (.str "name")) (fCons (fC (.str "a")) fNil))) fNil))) (fCons (fTup (fCons (fC (.str "may")) (fCons (fTup (fCons (fC (.str "name")) (fCons (fC (.str "a")) fNil))) fNil))) fNil))))) (sRet (fCallP al (fCons (fCallP ts (fCons (fTup (fCons (fC (.int 2)) (fCons (fTup (fCons (fTup (fCons (fC (.int 0)) (fCons (fC (.int 1)) fNil))) fNil)) (fCons (fTup (fCons (fTup fNil) (fCons (fTup (fCons (fC (.str "a")) fNil)) fNil))) fNil)))) (fCons (fC (.int 0)) (fCons (fVar 3) fNil)))) (fCons (fC (.bool false)) fNil)))))
def w0D : PyData := .tuple [.int 2, .tuple [.tuple [.int 0, .int 1]], .tuple [.tuple [], .tuple [.str "a"]]]
def oneD : PyData := .tuple [.str "said", .tuple [.str "may", .tuple [.str "name", .str "a"]], .tuple [.str "may", .tuple [.str "name", .str "a"]]]
theorem ls_gen {ts al : List Ag → Option PyData} {N : PyData} {a : Addr} {x2 x3 x4 x5 x6 x7 x8 x9 x10 : Ag} {g : G.T} (e1 : ts [.d (.tuple [.int 2, .tuple [.tuple [.int 0, .int 1]], .tuple [.tuple [], .tuple [.str "a"]]]), .d (.int 0), .d (.tuple [.str "said", .tuple [.str "may", .tuple [.str "name", .str "a"]], .tuple [.str "may", .tuple [.str "name", .str "a"]]])] = some (.bool false)) (e2 : al [.d (.bool false), .d (.bool false)] = some (.bool true)) :
    (LS ts al : Fst G) [.d N, .rf a, x2, x3, x4, x5, x6, x7, x8, x9, x10] g = some (.rt (.bool true) g) := by
  unfold LS
  walk_at "evh"
end
section
variable {ds : List Int} {aw ad : Addr} {N : PyData} {x2 x3 x4 x5 x6 x7 x8 x9 x10 : Ag}
theorem loop3 {w : W} (hw : WF w) {s : Sn} (hg : good s) (hh : ht s ≤ 3) (g : Nat) :
    ∃ y9 y10, sForH (G := WG ds aw ad) [] (fItems (fVar 8)) (bName 9) (B3 (S_law_true 64) (S_law_alike 10) (S_true_said 30)) [.d N, .rf aw, x2, x3, .d (enc s), .d (enc (Wo s)), x6, .d (encW w), .d (.list ((List.range w.n).map np)), x9, x10] g
      = some (.nx [.d N, .rf aw, x2, x3, .d (enc s), .d (enc (Wo s)), x6, .d (encW w), .d (.list ((List.range w.n).map np)), y9, y10] g) := by
  obtain ⟨ρ2, g2, h1, rfl, y9, y10, rfl⟩ := loopF_inv (T := Nat) (bd := bName 9) (F := B3 (G := WG ds aw ad) (S_law_true 64) (S_law_alike 10) (S_true_said 30)) (items := (List.range w.n).map np) (ρ := [.d N, .rf aw, x2, x3, .d (enc s), .d (enc (Wo s)), x6, .d (encW w), .d (.list ((List.range w.n).map np)), x9, x10]) (g := g)
    (fun i ρ g' => g' = g ∧ ∃ y9 y10, ρ = [.d N, .rf aw, x2, x3, .d (enc s), .d (enc (Wo s)), x6, .d (encW w), .d (.list ((List.range w.n).map np)), y9, y10]) (by
      rintro i d ρ g' hd ⟨rfl, y9, y10, rfl⟩
      rw [List.getElem?_map, Option.map_eq_some_iff] at hd
      obtain ⟨q, hq, rfl⟩ := hd
      have hp : q < w.n := List.mem_range.mp (List.mem_of_getElem? hq)
      have e1 := ltrue_ok hw 64 s (List.range w.n) q (fun q hq => List.mem_range.mp hq) hp (by omega)
      have hW := Wo_ht s
      have hm := gro_mono hh
      have h3 : gro 3 = 21 := rfl
      have e4 := ltrue_ok hw 64 (Wo s) (List.range w.n) q (fun q hq => List.mem_range.mp hq) hp (by omega)
      have e2 := true_ok 30 s w q hw hp (by omega)
      rw [L_Wo] at e4
      rw [← T_eq_L hw s hp] at e1 e4
      exact ⟨_, _, _, rfl, b3_gen (G := WG ds aw ad) e1 e2 (alike_ok 10 0 _ (.bool 0 _) (by decide)) e4 (by simp), rfl, _, _, rfl⟩) ⟨rfl, x9, x10, rfl⟩
  exact ⟨y9, y10, (sForH_of (items8 (G := WG ds aw ad))).trans h1⟩
theorem turn2 (hd : ds.length ≤ 1000000) {s : Sn} (hg : good s) (hh : ht s ≤ 3) (g : Nat) :
    ∃ y7 y8 y9 y10, ∃ g2 : Nat, B2 (G := WG ds aw ad) (S_law_world ds aw ad) (S_law_true 64) (S_law_alike 10) (S_true_said 30) (S_world_said 30) S_law_left [.d N, .rf aw, x2, x3, .d (enc s), .d (enc (Wo s)), x6, x7, x8, x9, x10] g
      = some (.nx [.d N, .rf aw, x2, x3, .d (enc s), .d (enc (Wo s)), x6, y7, y8, y9, y10] g2) := by
  obtain ⟨w, g1, e, hw, ht1⟩ := world_ok (aw := aw) (ad := ad) hd g
  obtain ⟨y9, y10, h3⟩ := loop3 (ds := ds) (aw := aw) (ad := ad) (N := N) (x2 := x2) (x3 := x3) (x6 := x6) (x9 := x9) (x10 := x10) hw hg hh g1
  refine ⟨.d (encW w), .d (.list ((List.range w.n).map np)), y9, y10, g1, ?_⟩
  have k1 := s7_gen (G := WG ds aw ad) (N := N) (x2 := x2) (x3 := x3) (x4 := .d (enc s)) (x5 := .d (enc (Wo s))) (x6 := x6) (x7 := x7) (x8 := x8) (x9 := x9) (x10 := x10) e
  have r : (fRangeL (f2 dIx (fVar 7) (fC (.int 0))) : Fl (WG ds aw ad)) [.d N, .rf aw, x2, x3, .d (enc s), .d (enc (Wo s)), x6, .d (encW w), x8, x9, x10] g1 = some ((List.range w.n).map np, g1) := range_np (n := w.n) rfl (by have := hw.sz; omega)
  have k2 := s8_gen (G := WG ds aw ad) r
  have hs : S_world_said 30 [.d (encW w), .d (enc s)] = some (told w (pts (fun q => T s w q) w.n)) := said_fin (k := 29) hw fun q hq => true_ok 29 s w q hw hq (by omega)
  have hl := left_ok hw (s := s) (by omega)
  rw [pts_congr (f := fun q => L w s (List.range w.n) q) (g := fun q => T s w q) fun q hq => (T_eq_L hw s hq).symm] at hl
  have k4 := i4_gen (G := WG ds aw ad) (N := N) (a := aw) (x2 := x2) (x3 := x3) (x5 := .d (enc (Wo s))) (x6 := x6) (x8 := .d (.list ((List.range w.n).map np))) (x9 := y9) (x10 := y10) (g := g1) hs hl (alike_ok 10 5 _ (Pl_told hw ht1 (pts_lt _ _) (pts_len _ _)) (by decide))
  unfold B2
  rw [sSeq_nx (G := WG ds aw ad) k1, sSeq_nx (G := WG ds aw ad) k2, sSeq_nx (G := WG ds aw ad) h3]
  exact k4
theorem turn1 (hd : ds.length ≤ 1000000) (g : Nat) :
    ∃ y4 y5 y6 y7 y8 y9 y10, ∃ g2 : Nat, B1 (G := WG ds aw ad) (S_law_sentence ds aw ad 10) (S_law_world ds aw ad) (S_without_said 10) (S_law_is_without 64) (S_law_true 64) (S_law_alike 10) (S_true_said 30) (S_world_said 30) S_law_left [.d N, .rf aw, x2, x3, x4, x5, x6, x7, x8, x9, x10] g
      = some (.nx [.d N, .rf aw, x2, x3, y4, y5, y6, y7, y8, y9, y10] g2) := by
  obtain ⟨s, g1, e, hg, hh⟩ := sent_ok (aw := aw) (ad := ad) hd 10 3 g (by decide)
  have hm := gro_mono hh
  have h3 : gro 3 = 21 := rfl
  have hW := Wo_ht s
  have k1 := s4_gen (G := WG ds aw ad) (N := N) (x2 := x2) (x3 := x3) (x4 := x4) (x5 := x5) (x6 := x6) (x7 := x7) (x8 := x8) (x9 := x9) (x10 := x10) e
  have k2 := s5_gen (G := WG ds aw ad) (N := N) (a := aw) (x2 := x2) (x3 := x3) (x5 := x5) (x6 := x6) (x7 := x7) (x8 := x8) (x9 := x9) (x10 := x10) (g := g1) (without_ok 10 s (by omega) (by omega))
  have k3 := i5_gen (G := WG ds aw ad) (N := N) (a := aw) (x2 := x2) (x3 := x3) (x4 := .d (enc s)) (x6 := x6) (x7 := x7) (x8 := x8) (x9 := x9) (x10 := x10) (g := g1) (without_law 64 (Wo s) (Wo_free s) (Wo_good hg) (by omega) (by omega))
  obtain ⟨ρ2, g2, h1, y6, y7, y8, y9, y10, rfl⟩ := loopF_inv (T := Nat) (bd := bName 6) (F := B2 (G := WG ds aw ad) (S_law_world ds aw ad) (S_law_true 64) (S_law_alike 10) (S_true_said 30) (S_world_said 30) S_law_left) (items := (List.range 4).map np) (ρ := [.d N, .rf aw, x2, x3, .d (enc s), .d (enc (Wo s)), x6, x7, x8, x9, x10]) (g := g1)
    (fun i ρ g' => ∃ y6 y7 y8 y9 y10, ρ = [.d N, .rf aw, x2, x3, .d (enc s), .d (enc (Wo s)), y6, y7, y8, y9, y10]) (by
      rintro i d ρ g' hdd ⟨y6, y7, y8, y9, y10, rfl⟩
      obtain ⟨z7, z8, z9, z10, g3, hz⟩ := turn2 (ds := ds) (aw := aw) (ad := ad) (N := N) (x2 := x2) (x3 := x3) (x6 := .d d) (x7 := y7) (x8 := y8) (x9 := y9) (x10 := y10) hd hg hh g'
      exact ⟨_, _, _, rfl, hz, _, _, _, _, _, rfl⟩) ⟨_, _, _, _, _, rfl⟩
  refine ⟨.d (enc s), .d (enc (Wo s)), y6, y7, y8, y9, y10, g2, ?_⟩
  unfold B1
  rw [sSeq_nx (G := WG ds aw ad) k1, sSeq_nx (G := WG ds aw ad) k2, sSeq_nx (G := WG ds aw ad) k3]
  exact (sForH_of (four (G := WG ds aw ad))).trans h1
def w0 : W := ⟨2, [(0, 1)], [[], ["a"]]⟩
def one0 : Sn := .sd (.my (.nm "a")) (.my (.nm "a"))
theorem w0_wf : WF w0 := ⟨rfl, by decide, List.pairwise_singleton _ _, by decide⟩
theorem last_ok : S_true_said 30 [.d (encW w0), .d (np 0), .d (enc one0)] = some (.bool false) := by
  have := true_ok 30 one0 w0 0 w0_wf (by decide) (by decide)
  rw [show T one0 w0 0 = false by decide +kernel] at this
  exact this
theorem FL_ok (hd : ds.length ≤ 1000000) (g : Nat) : ∃ g2, FL ds aw ad [.d N, .rf aw, x2, x3, x4, x5, x6, x7, x8, x9, x10] g = some (.rt (.bool true) g2) := by
  obtain ⟨ρ2, g2, h1, y2, y3, y4, y5, y6, y7, y8, y9, y10, rfl⟩ := loopF_inv (T := Nat) (bd := bName 2) (F := B1 (G := WG ds aw ad) (S_law_sentence ds aw ad 10) (S_law_world ds aw ad) (S_without_said 10) (S_law_is_without 64) (S_law_true 64) (S_law_alike 10) (S_true_said 30) (S_world_said 30) S_law_left) (items := (List.range 4).map np) (ρ := [.d N, .rf aw, x2, x3, x4, x5, x6, x7, x8, x9, x10]) (g := g)
    (fun i ρ g' => ∃ y2 y3 y4 y5 y6 y7 y8 y9 y10, ρ = [.d N, .rf aw, y2, y3, y4, y5, y6, y7, y8, y9, y10]) (by
      rintro i d ρ g' hdd ⟨y2, y3, y4, y5, y6, y7, y8, y9, y10, rfl⟩
      obtain ⟨z4, z5, z6, z7, z8, z9, z10, g3, hz⟩ := turn1 (ds := ds) (aw := aw) (ad := ad) (N := N) (x2 := .d d) (x3 := y3) (x4 := y4) (x5 := y5) (x6 := y6) (x7 := y7) (x8 := y8) (x9 := y9) (x10 := y10) hd g'
      exact ⟨_, _, _, rfl, hz, _, _, _, _, _, _, _, _, _, rfl⟩) ⟨_, _, _, _, _, _, _, _, _, rfl⟩
  have k1 : sForH (G := WG ds aw ad) [] (fRange1 (fC (.int 4))) (bName 2) (B1 (G := WG ds aw ad) (S_law_sentence ds aw ad 10) (S_law_world ds aw ad) (S_without_said 10) (S_law_is_without 64) (S_law_true 64) (S_law_alike 10) (S_true_said 30) (S_world_said 30) S_law_left) [.d N, .rf aw, x2, x3, x4, x5, x6, x7, x8, x9, x10] g = _ := (sForH_of (four (G := WG ds aw ad))).trans h1
  refine ⟨g2, ?_⟩
  have k2 := ls_gen (G := WG ds aw ad) (ts := S_true_said 30) (al := S_law_alike 10) (N := N) (a := aw) (x2 := y2) (x3 := y3) (x4 := y4) (x5 := y5) (x6 := y6) (x7 := y7) (x8 := y8) (x9 := y9) (x10 := y10) (g := g2) last_ok (alike_ok 10 0 _ (.bool 0 _) (by decide))
  have k3 := (sSeq_nx (G := WG ds aw ad) (F' := LS (S_true_said 30) (S_law_alike 10)) k1).trans k2
  exact k3
end
end K75

set_option Elab.async false
set_option linter.all false
set_option maxRecDepth 100000
set_option maxHeartbeats 4000000
namespace K75
open PySem PySem.Spec L2 DL
local macro_rules | `(tactic| walk_at "ev0") => `(tactic| simp only [enter, List.length_cons, List.length_nil, List.replicate, List.cons_append, List.nil_append, sSeq, Nat.zero_add, Nat.reduceAdd, Nat.reduceSub])
local macro_rules | `(tactic| walk_at "ev") => `(tactic| try simp only [semP, semPN, semG, semGN, enter, outR, List.length_cons, List.length_nil, List.replicate, List.cons_append, List.nil_append, sSeq, sIf, sRet, sRetN, sRetO, sSkip, sSetH, sSet, sSetN, sAsgH, sAsg, sApp, sAppH, sDo, hide_nil, hide, hideAux, bName, bTup, bCons, bNil, fVar, fC, f1, f2, fIf, fB, fAnd, fOr, fNot, fAndV, fOrV, fNotV, fN, fTup, fLst, fNil, fCons, fConsR, fSl, fSlL, fPart, fB1, fB1N, fCall, fCallP, fCallPN, fCallN, fItems, wipeE, dSl, cut_1, fSl, fPart, ii_tt, ii_st, ii_ss, ii_tn, ii_tb, ii_ti, ii_ts, ii_bn, ii_bb, ii_bi, ii_bs, ii_in, ii_ib, ii_ii, ii_is, isn_n, isn_b, isn_i, isn_s, isn_t,  fRange1, dItems, mb_some, mb_none, mp_some, mp_none, agD, Option.map_some, Option.map_none, Option.bind_some, d1, d2, l1, dLen_t, dLen_l, dInt1, dAbs1, dTuple1, dIx_t, dIx_l, dEq_int, dEq_np, imm_np, immL_nps, immL_bools, immL_strs, dEq_str, dNe_int, dNe_str, dEq_bool, dNe_bool, dGe_int, dGt_int, dLt_int, dLe_int, dAdd_int, dSub_int, dAddI_int, imm, immL, dIn_str2, dIn_str3, sq_name_name, sq_name_false, sq_name_said, sq_name_box, sq_name_may, sq_name_not, sq_name_and, sq_name_or, sq_name_then, sq_false_name, sq_false_false, sq_false_said, sq_false_box, sq_false_may, sq_false_not, sq_false_and, sq_false_or, sq_false_then, sq_said_name, sq_said_false, sq_said_said, sq_said_box, sq_said_may, sq_said_not, sq_said_and, sq_said_or, sq_said_then, sq_box_name, sq_box_false, sq_box_said, sq_box_box, sq_box_may, sq_box_not, sq_box_and, sq_box_or, sq_box_then, sq_may_name, sq_may_false, sq_may_said, sq_may_box, sq_may_may, sq_may_not, sq_may_and, sq_may_or, sq_may_then, sq_not_name, sq_not_false, sq_not_said, sq_not_box, sq_not_may, sq_not_not, sq_not_and, sq_not_or, sq_not_then, sq_and_name, sq_and_false, sq_and_said, sq_and_box, sq_and_may, sq_and_not, sq_and_and, sq_and_or, sq_and_then, sq_or_name, sq_or_false, sq_or_said, sq_or_box, sq_or_may, sq_or_not, sq_or_and, sq_or_or, sq_or_then, sq_then_name, sq_then_false, sq_then_said, sq_then_box, sq_then_may, sq_then_not, sq_then_and, sq_then_or, sq_then_then, atI_0, atI_1, atI_2, atI_3, List.getElem?_cons_zero, List.getElem?_cons_succ, List.set_cons_zero, List.set_cons_succ, if_true, if_false, Bool.false_eq_true, reduceIte, decide_true, decide_false, true_and, and_true, and_self, not_true_eq_false, not_false_eq_true, Nat.zero_add, Nat.reduceAdd, Nat.reduceSub, Nat.reduceEqDiff, List.contains_cons, List.contains_nil, Nat.reduceBEq, Bool.or_false, Bool.false_or, Bool.true_or, Bool.or_true, Bool.and_true, Bool.true_and, Bool.not_true, Bool.not_false, fM, dTuple1, sl0, sl1, sl2, sl3, sl4, sl5, sl6, sl7, sl8, sl9, sl10, sl11, sl12, Nat.reduceLeDiff])
local macro_rules | `(tactic| walk_at "evh") => `(tactic| try simp only [semP, semPN, semG, semGN, enter, outR, List.length_cons, List.length_nil, List.replicate, List.cons_append, List.nil_append, sSeq, sIf, sRet, sRetN, sRetO, sSkip, sSetH, sSet, sSetN, sAsgH, sAsg, sApp, sAppH, sDo, hide_nil, hide, hideAux, bName, bTup, bCons, bNil, fVar, fC, f1, f2, fIf, fB, fAnd, fOr, fNot, fAndV, fOrV, fNotV, fN, fTup, fLst, fNil, fCons, fConsR, fSl, fSlL, fPart, fB1, fB1N, fCall, fCallP, fCallPN, fCallN, fItems, wipeE, dSl, cut_1, fSl, fPart, ii_tt, ii_st, ii_ss, ii_tn, ii_tb, ii_ti, ii_ts, ii_bn, ii_bb, ii_bi, ii_bs, ii_in, ii_ib, ii_ii, ii_is, isn_n, isn_b, isn_i, isn_s, isn_t,  fRange1, dItems, mb_some, mb_none, mp_some, mp_none, agD, Option.map_some, Option.map_none, Option.bind_some, d1, d2, l1, dLen_t, dLen_l, dInt1, dAbs1, dTuple1, dIx_t, dIx_l, dEq_int, dEq_np, imm_np, immL_nps, immL_bools, immL_strs, dEq_str, dNe_int, dNe_str, dEq_bool, dNe_bool, dGe_int, dGt_int, dLt_int, dLe_int, dAdd_int, dSub_int, dAddI_int, imm, immL, dIn_str2, dIn_str3, sq_name_name, sq_name_false, sq_name_said, sq_name_box, sq_name_may, sq_name_not, sq_name_and, sq_name_or, sq_name_then, sq_false_name, sq_false_false, sq_false_said, sq_false_box, sq_false_may, sq_false_not, sq_false_and, sq_false_or, sq_false_then, sq_said_name, sq_said_false, sq_said_said, sq_said_box, sq_said_may, sq_said_not, sq_said_and, sq_said_or, sq_said_then, sq_box_name, sq_box_false, sq_box_said, sq_box_box, sq_box_may, sq_box_not, sq_box_and, sq_box_or, sq_box_then, sq_may_name, sq_may_false, sq_may_said, sq_may_box, sq_may_may, sq_may_not, sq_may_and, sq_may_or, sq_may_then, sq_not_name, sq_not_false, sq_not_said, sq_not_box, sq_not_may, sq_not_not, sq_not_and, sq_not_or, sq_not_then, sq_and_name, sq_and_false, sq_and_said, sq_and_box, sq_and_may, sq_and_not, sq_and_and, sq_and_or, sq_and_then, sq_or_name, sq_or_false, sq_or_said, sq_or_box, sq_or_may, sq_or_not, sq_or_and, sq_or_or, sq_or_then, sq_then_name, sq_then_false, sq_then_said, sq_then_box, sq_then_may, sq_then_not, sq_then_and, sq_then_or, sq_then_then, atI_0, atI_1, atI_2, atI_3, List.getElem?_cons_zero, List.getElem?_cons_succ, List.set_cons_zero, List.set_cons_succ, if_true, if_false, Bool.false_eq_true, reduceIte, decide_true, decide_false, true_and, and_true, and_self, not_true_eq_false, not_false_eq_true, Nat.zero_add, Nat.reduceAdd, Nat.reduceSub, Nat.reduceEqDiff, List.contains_cons, List.contains_nil, Nat.reduceBEq, Bool.or_false, Bool.false_or, Bool.true_or, Bool.or_true, Bool.and_true, Bool.true_and, Bool.not_true, Bool.not_false, fM, dTuple1, sl0, sl1, sl2, sl3, sl4, sl5, sl6, sl7, sl8, sl9, sl10, sl11, sl12, Nat.reduceLeDiff, *])






local macro_rules | `(tactic| walk_at "evw") => `(tactic| try simp only [semP, semPN, semG, semGN, enter, outR, List.length_cons, List.length_nil, List.replicate, List.cons_append, List.nil_append, sSeq, sIf, sRet, sRetN, sRetO, sSkip, sSetH, sSet, sSetN, sAsgH, sAsg, sApp, sAppH, sDo, hide_nil, hide, hideAux, bName, bTup, bCons, bNil, fVar, fC, f1, f2, fIf, fB, fAnd, fOr, fNot, fAndV, fOrV, fNotV, fN, fTup, fLst, fNil, fCons, fConsR, fSl, fSlL, fPart, fB1, fB1N, fCall, fCallP, fCallPN, fCallN, fItems, wipeE, dSl, cut_1, fSl, fPart, ii_tt, ii_st, ii_ss, ii_tn, ii_tb, ii_ti, ii_ts, ii_bn, ii_bb, ii_bi, ii_bs, ii_in, ii_ib, ii_ii, ii_is, isn_n, isn_b, isn_i, isn_s, isn_t,  fRange1, dItems, mb_some, mb_none, mp_some, mp_none, agD, Option.map_some, Option.map_none, Option.bind_some, d1, d2, l1,  dInt1, dAbs1, dTuple1, dIx_t, dIx_l, dEq_int, dEq_np, imm_np, immL_nps, immL_bools, immL_strs, dEq_str, dNe_int, dNe_str, dEq_bool, dNe_bool, dGe_int, dGt_int, dLt_int, dLe_int, dAdd_int, dSub_int, dAddI_int, imm, immL, dIn_str2, dIn_str3, sq_name_name, sq_name_false, sq_name_said, sq_name_box, sq_name_may, sq_name_not, sq_name_and, sq_name_or, sq_name_then, sq_false_name, sq_false_false, sq_false_said, sq_false_box, sq_false_may, sq_false_not, sq_false_and, sq_false_or, sq_false_then, sq_said_name, sq_said_false, sq_said_said, sq_said_box, sq_said_may, sq_said_not, sq_said_and, sq_said_or, sq_said_then, sq_box_name, sq_box_false, sq_box_said, sq_box_box, sq_box_may, sq_box_not, sq_box_and, sq_box_or, sq_box_then, sq_may_name, sq_may_false, sq_may_said, sq_may_box, sq_may_may, sq_may_not, sq_may_and, sq_may_or, sq_may_then, sq_not_name, sq_not_false, sq_not_said, sq_not_box, sq_not_may, sq_not_not, sq_not_and, sq_not_or, sq_not_then, sq_and_name, sq_and_false, sq_and_said, sq_and_box, sq_and_may, sq_and_not, sq_and_and, sq_and_or, sq_and_then, sq_or_name, sq_or_false, sq_or_said, sq_or_box, sq_or_may, sq_or_not, sq_or_and, sq_or_or, sq_or_then, sq_then_name, sq_then_false, sq_then_said, sq_then_box, sq_then_may, sq_then_not, sq_then_and, sq_then_or, sq_then_then, atI_0, atI_1, atI_2, atI_3, List.getElem?_cons_zero, List.getElem?_cons_succ, List.set_cons_zero, List.set_cons_succ, if_true, if_false, Bool.false_eq_true, reduceIte, decide_true, decide_false, true_and, and_true, and_self, not_true_eq_false, not_false_eq_true, Nat.zero_add, Nat.reduceAdd, Nat.reduceSub, Nat.reduceEqDiff, List.contains_cons, List.contains_nil, Nat.reduceBEq, Bool.or_false, Bool.false_or, Bool.true_or, Bool.or_true, Bool.and_true, Bool.true_and, Bool.not_true, Bool.not_false, fM, dTuple1, sl0, sl1, sl2, sl3, sl4, sl5, sl6, sl7, sl8, sl9, sl10, sl11, sl12, Nat.reduceLeDiff, *])











theorem eF : F_law_draws = F_draws := rfl
theorem e800 : PyData.int ((800 : Nat) : Int) = .int 800 := rfl
theorem draws_here {ns : List Int} (hn : ns.length ≤ 63) : ∃ is : List Int, S_law_draws [.d (.list (ns.map .int)), .d (.int 800)] = some (is.map .int) ∧ is.length = 800 := by
  obtain ⟨is, h1, h2, h3⟩ := draws_ok (ns := ns) (many := 800) hn (by decide)
  refine ⟨is, ?_, h3⟩
  unfold S_law_draws
  rw [eF, ← e800]
  exact h1
theorem FD_gen {F : List Ag → Option (List PyData)} {y : PyData} {r : List PyData} {rest : En} (e : F [.d y, .d (.int 800)] = some r) : (fCallPN F (fCons (fVar 0) (fCons (fC (.int 800)) fNil)) : Fl G0) (.d y :: rest) () = some (r, ()) := by
  walk_at "evh"
theorem enter_11 (y : PyData) : enter 11 [.d y] = [.d y, .no, .no, .no, .no, .no, .no, .no, .no, .no, .no] := rfl
theorem main : Main := by
  intro ns hn
  obtain ⟨is, h1, h3⟩ := draws_here hn
  have hl : is.length ≤ 1000000 := by rw [h3]; decide
  clear h3
  rw [enter_11]
  refine ⟨is.map .int, is, ?_, allI_map is, fun aw ad => ?_⟩
  · unfold FD
    exact FD_gen h1
  · rw [List.set_cons_succ, List.set_cons_zero]
    exact FL_ok hl 0
end K75

open PySem PySem.W PyProof.Rows
set_option maxRecDepth 100000 in
set_option maxHeartbeats 0 in
theorem PySem.Challenge.cw_provenordenied_k75_what_is_said_holds : PySem.Challenge.rw_provenordenied_k75_what_is_said.Holds := by
  w_on; o_law; k_head; (case hw => w_witness2)
  k_fill
  refine L2.walk_of (l := PySem.Challenge.rw_provenordenied_k75_what_is_said) (n := 63) (k := 79) (x := "script") (CX := fun _ => L2.CX0) (sp := fun w => DL.spLaw _) rfl (by decide) rfl ⟨rfl, by decide, by decide⟩ (fun w h Y => PySem.W.kIn_of Y) ?F (fun _ _ a ns hl _ hS => ⟨a, ns, rfl, hS, hl, fun _ => rfl⟩) (fun _ _ _ _ _ h => h)
  case F =>
    intro w mg fa h KX G hmg
    refine' K75.all_mk KX G hmg ?a0 ?l0 ?c0 ?k0 ?a1 ?l1 ?c1 ?k1 ?a2 ?l2 ?c2 ?k2 ?a3 ?l3 ?c3 ?k3 ?a4 ?l4 ?c4 ?k4 ?a5 ?l5 ?c5 ?k5 ?a6 ?l6 ?c6 ?k6 ?a7 ?l7 ?c7 ?k7 ?a8 ?l8 ?c8 ?k8 ?a9 ?l9 ?c9 ?k9 ?a10 ?l10 ?c10 ?k10 ?a11 ?l11 ?c11 ?k11 ?a12 ?l12 ?c12 ?k12 ?a13 ?l13 ?c13 ?k13 ?a14 ?l14 ?c14 ?k14 ?a15 ?l15 ?c15 ?k15 ?a16 ?l16 ?c16 ?k16 ?z0 ?z1 ?z2 ?z3 ?z4 ?z5 ?z6 ?z7 ?z8 ?z9 ?z10 ?z11 K75.main
    (case a0 => k_is)
    (case l0 => k_is)
    (case c0 => k_is)
    (case k0 => k_is)
    (case a1 => k_is)
    (case l1 => k_is)
    (case c1 => k_is)
    (case k1 => k_is)
    (case a2 => k_is)
    (case l2 => k_is)
    (case c2 => k_is)
    (case k2 => k_is)
    (case a3 => k_is)
    (case l3 => k_is)
    (case c3 => k_is)
    (case k3 => k_is)
    (case a4 => k_is)
    (case l4 => k_is)
    (case c4 => k_is)
    (case k4 => k_is)
    (case a5 => k_is)
    (case l5 => k_is)
    (case c5 => k_is)
    (case k5 => k_is)
    (case a6 => k_is)
    (case l6 => k_is)
    (case c6 => k_is)
    (case k6 => k_is)
    (case a7 => k_is)
    (case l7 => k_is)
    (case c7 => k_is)
    (case k7 => k_is)
    (case a8 => k_is)
    (case l8 => k_is)
    (case c8 => k_is)
    (case k8 => k_is)
    (case a9 => k_is)
    (case l9 => k_is)
    (case c9 => k_is)
    (case k9 => k_is)
    (case a10 => k_is)
    (case l10 => k_is)
    (case c10 => k_is)
    (case k10 => k_is)
    (case a11 => k_is)
    (case l11 => k_is)
    (case c11 => k_is)
    (case k11 => k_is)
    (case a12 => k_is)
    (case l12 => k_is)
    (case c12 => k_is)
    (case k12 => k_is)
    (case a13 => k_is)
    (case l13 => k_is)
    (case c13 => k_is)
    (case k13 => k_is)
    (case a14 => k_is)
    (case l14 => k_is)
    (case c14 => k_is)
    (case k14 => k_is)
    (case a15 => k_is)
    (case l15 => k_is)
    (case c15 => k_is)
    (case k15 => k_is)
    (case a16 => k_is)
    (case l16 => k_is)
    (case c16 => k_is)
    (case k16 => k_is)
    (case z0 => k_is)
    (case z1 => k_is)
    (case z2 => k_is)
    (case z3 => k_is)
    (case z4 => k_is)
    (case z5 => k_is)
    (case z6 => k_is)
    (case z7 => k_is)
    (case z8 => k_is)
    (case z9 => k_is)
    (case z10 => k_is)
    (case z11 => k_is)
