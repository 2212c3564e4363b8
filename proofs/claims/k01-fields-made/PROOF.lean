import PyProof.Rows.All
import HandS.HotCalls
import HandS.ExcIs
import Wide.FinOn
import OpenK.AllK
import Wide.All
import HandS.Rev
import HandS.ForMost
import HandS.Evl
import HandS.ForExc
import HandS.Zip
import HandS.IsInst
import HandS.Wide
import HandS.Style
import HandS.TupAny
import HandS.More
import HandS.Conv
import HandS.Walk
import HandS.SetFor
import KE.GoesNew
import KE.GoesMore
import PySem.Challenge.RW_stepfield_k01_fields_made
set_option Elab.async false
set_option linter.all false
set_option maxRecDepth 100000
set_option maxHeartbeats 4000000
namespace SF
open PySem PySem.Spec PyProof.Rows L2
def ZT (H : Hp) (a : Addr) (xs : List V) : Prop := ∃ o : Obj, H a = some (.frz o (.tup xs)) ∧ o.dict = none
theorem ZT.sq {K : PySem.W.Frag} {H : Hp} {a : Addr} {xs : List V} (h : ZT H a xs) : SqT K H a xs := let ⟨o, e, _⟩ := h; .inl (.inr ⟨o, e⟩)
def NewZ (H : Hp) (xs : List V) (Q : VK) : Prop := ∀ (p : Addr) (o : Obj), H p = none → o.dict = none → Q (.ref p) (upd H p (.frz o (.tup xs)))
section
variable {X : Cx} {pins : List (Addr × Obj)} {σ : L2.St} {H : Hp} {s : Shared}
theorem laidZ {its : List Value} {xs : List V} {t' : Nat} (I : Inv X pins σ H s) (hz : xs.length ≤ sizeLine) (r : Vals xs its) :
    Inv X pins σ (upd H s.heap.objs.size (.frz { cls := .type "tuple", data := .seq its.toArray } (.tup xs))) { s with heap := s.heap.push { cls := .type "tuple", data := .seq its.toArray }, toks := t' } :=
  I.laid (t' := t') (fun b o e => Heap.get?_push_of_some _ e) (Nat.le_refl _) ⟨Heap.get?_push_size _ rfl, hz, its, r, ⟨_, Heap.get?_push_size _ rfl, rfl, _, rfl⟩⟩
def tTupZ (t : TA) : TE := fun σ H Q => t σ H fun xs H1 => xs.length ≤ sizeLine ∧ NewZ H1 xs Q
theorem pe_tupZ {es : List Expr} {t : TA} {pos : Pos} {x1} (h : PA X es t) : PE X (.Tuple es x1 pos) (tTupZ t) := by
  refine ⟨fun pins s σ H Q I hq => ?_⟩
  refine wpAny_Tuple_spliced (thn (h.run pos pins s σ H _ I hq) fun us s1 ⟨xs, H1, I1, r, z, q⟩ => ⟨by rw [← r.length]; exact z, ?_⟩)
  exact ⟨.ref s1.heap.objs.size, _, laidZ (t' := s1.toks) I1 z r, rfl, q _ _ (I1.hok.fresh (Nat.le_refl _)) rfl⟩
def rTupleOf (K : PySem.W.Frag) : List V → Hp → VK → Prop := fun xs H Q => ∃ p ys, xs = [.ref p] ∧ ((SqL K H p ys ∧ NewZ H ys Q) ∨ (SqT K H p ys ∧ Q (.ref p) H))
theorem call_tupleOf : CallR X (.type "tuple") (rTupleOf X.K) := by
  intro pins s σ H xs us Q I r h
  obtain ⟨p, ys, rfl, h⟩ := h
  obtain ⟨u, rfl, rx⟩ := vals1 r
  cases rx
  rcases h with ⟨hq, q⟩ | ⟨hq, q⟩
  · obtain ⟨its, r', pl, hz⟩ := I.list hq
    have hlen := r'.length
    refine call_tuple_list pl.isList (fun h' kp => ?_) (by simp only [List.size_toArray] <;> omega)
    have I1 : Inv X pins σ H { s with heap := h' } := I.kept (t' := s.toks) kp
    exact ⟨.ref h'.objs.size, _, laidZ (t' := s.toks) I1 hz r', rfl, q _ _ (I1.hok.fresh (Nat.le_refl _)) rfl⟩
  · obtain ⟨its, r', pl, hz⟩ := I.tuple hq
    exact call_tuple_same pl ⟨.ref p, H, I, rfl, q⟩
def rCatZ (K : PySem.W.Frag) : R2 := fun x y H Q => ∃ a b xs ys, x = .ref a ∧ y = .ref b ∧ SqT K H a xs ∧ SqT K H b ys ∧ xs.length + ys.length ≤ sizeLine ∧
  (xs = [] → Q (.ref b) H) ∧ (xs ≠ [] → ys = [] → Q (.ref a) H) ∧ (xs ≠ [] → ys ≠ [] → NewZ H (xs ++ ys) Q)
theorem op_catZ : OpR X (binaryOp .Add) (rCatZ X.K) := by
  intro pins s σ H x y v u Q I rx ry h
  obtain ⟨a, b, xs, ys, rfl, rfl, ha, hb, hz, q0, q1, q2⟩ := h
  cases rx
  cases ry
  obtain ⟨its, r1, p1, _⟩ := I.tuple ha
  obtain ⟨its2, r2, p2, _⟩ := I.tuple hb
  by_cases hx : xs = []
  · subst hx
    cases r1
    exact cat_tup0 p1 p2 ⟨.ref b, H, I, rfl, q0 rfl⟩
  · refine HT.cat_tup p1 p2 (fun z => hx (r1.nil_iff.mp z)) (fun z => ⟨.ref a, H, I, rfl, q1 hx (r2.nil_iff.mp z)⟩) (fun z => ?_) (by rw [← r1.length, ← r2.length]; exact hz)
    exact ⟨.ref s.heap.objs.size, _, laidZ (t' := s.toks) I (by rw [List.length_append]; exact hz) (r1.append r2), rfl, q2 hx (fun w => z (r2.nil_iff.mpr w)) _ _ (I.hok.fresh (Nat.le_refl _)) rfl⟩
def rSlZ (K : PySem.W.Frag) : V → Option Int → Option Int → Hp → VK → Prop := fun x lo hi H Q => ∃ a xs, x = .ref a ∧ SqT K H a xs ∧
  (HT.sIx xs.length 0 lo = 0 ∧ HT.sIx xs.length xs.length hi = xs.length → Q (.ref a) H) ∧ (¬ (HT.sIx xs.length 0 lo = 0 ∧ HT.sIx xs.length xs.length hi = xs.length) → NewZ H (cutV xs lo hi) Q)
theorem sl_tupZ : SlR X (rSlZ X.K) := by
  intro pins s σ H x v vl vu lo hi sl Q I rx hs pl pu h
  obtain ⟨a, xs, rfl, hx, q1, q2⟩ := h
  cases rx
  obtain ⟨its, r, ht, hz⟩ := I.tuple hx
  have hlen : its.toArray.size = xs.length := by rw [List.size_toArray]; exact r.length.symm
  refine ⟨"tuple", _, PyProof.Rows.slot_tuple_getitem.lookup, ht.typeIs, ?_⟩
  by_cases hw : HT.sIx xs.length 0 lo = 0 ∧ HT.sIx xs.length xs.length hi = xs.length
  · exact getItem_tuple_whole ht hs pl pu (by rw [hlen]; exact hw) ⟨.ref a, H, I, rfl, q1 hw⟩
  · refine HT.getItem_tuple_cut ht hs pl pu (by rw [hlen]; exact hw) ?_ (by rw [hlen]; exact hz)
    rw [hlen]
    exact ⟨.ref s.heap.objs.size, _, laidZ (t' := s.toks) I (Nat.le_trans (cutV_length xs lo hi) hz) ((r.drop (HT.sIx xs.length 0 lo)).take (HT.sIx xs.length xs.length hi - HT.sIx xs.length 0 lo)), rfl, q2 hw _ _ (I.hok.fresh (Nat.le_refl _)) rfl⟩
def tBMZ (r : V → List V → Hp → VK → Prop) (to : TE) (t : TA) : TE := fun σ H Q => to σ H fun x H1 => (∃ a xs, x = .ref a ∧ ZT H1 a xs) ∧ t σ H1 fun xs H2 => r x xs H2 Q
theorem pe_bmZ {o e : Expr} {es : List Expr} {to : TE} {t : TA} {name : Str} {apos cpos : Pos} {id : String} {r : V → List V → Hp → VK → Prop} (slot : Slot "tuple" name id) (hty : typeOf (.builtin id) = pure (.type "method_descriptor")) (hm : MtR X id r) (ho : PE X o to) (ha : PA X (e :: es) t)
    (hbase : attributeBase o name X.env (eval o X.env) = eval o X.env := by rfl)
    (hfew : ((backTo cpos (starEach (e :: es) X.env)).all (fun x => !x.1) && (backToKw cpos (keywordEach [] X.env)).all (fun x => x.1.isSome)
      && decide ((e :: es).length + ([] : List Keyword).length + (if ([] : List Keyword).isEmpty then 0 else 1) < 30)) = true := by rfl)
    (hline : (apos.endLine == cpos.line) = true := by rfl) (hs : starEach (e :: es) X.env = (false, eval e X.env) :: starEach es X.env := by rfl) (hplain : (backTo cpos (starEach es X.env)).any (·.1) = false := by rfl) :
    PE X (.Call (.Attribute o name apos) (e :: es) [] cpos) (tBMZ r to t) := by
  refine ⟨fun pins s σ H Q I h => ?_⟩
  refine wpAny_Call_method_late hbase hfew hline rfl (thn (ho.run pins s σ H _ I h) fun v s1 ⟨x, H1, I1, r1, ty, q1⟩ => ?_)
  obtain ⟨a, xs, rfl, ob, hz, hd⟩ := ty
  cases r1
  obtain ⟨e1, hl, its, rv, p⟩ := I1.hok a _ hz
  refine ⟨"tuple", id, PySem.F.plainAttrs_tuple, slot, hty, p.typeIs, fun b eb => ?_, ?_⟩
  · cases eb
    exact ⟨ob, e1, hd⟩
  have hA := ha.run cpos pins s1 σ H1 _ I1 q1
  rw [hs] at hA ⊢
  refine Calls.callWith_builtin (by show (false || (backTo cpos (starEach es X.env)).any (·.1)) = false; rw [hplain] <;> rfl) (Calls.evalArgs_plain ?_)
  exact thn hA fun us s2 ⟨vs, H2, I2, r2, q2⟩ => hm pins s2 σ H2 (.ref a) vs (.ref a) us Q I2 rfl r2 q2
def rCntT (K : PySem.W.Frag) : V → List V → Hp → VK → Prop := fun x xs H Q => ∃ (p : Addr) (ns : List Int) (k : Int), x = .ref p ∧ xs = [.int k] ∧ SqT K H p (ns.map V.int) ∧ Q (.int (ns.count k : Nat)) H
theorem mt_tcount : MtR X "tuple.count" (rCntT X.K) := by
  intro pins s σ H x xs v us Q I rx rxs h
  obtain ⟨p, ns, k, rfl, rfl, hs, q⟩ := h
  cases rx
  obtain ⟨u, rfl, ru⟩ := rxs.one
  obtain ⟨t, rfl⟩ := ru
  obtain ⟨its, rv, ⟨⟨cls, dd, data, sl⟩, ho, hc, n, hd⟩, hlen⟩ := I.tuple hs
  simp only at hc hd
  subst hc hd
  have hi := ints_of_vals rv
  refine call_meets PySem.F.slot_tuple_count ⟨_, ho, rfl⟩ PySem.F.entry_tuple_count (PySem.F.args_tuple_count_2 _ _)
    (SeqAt.tuple_countAt p its.toArray n dd sl (.int k t) (eqk k)) ⟨ho, fun y hy => (eqk_gives hi y (by simpa using hy)).at _ _, ?_⟩
  have ec : its.toArray.toList.countP (eqk k) = ns.count k := eqk_count hi
  refine ⟨.int (ns.count k : Nat), H, I.tok _, ⟨s.toks, ?_⟩, q⟩
  show Value.int ((its.toArray.toList.countP (eqk k) : Nat) : Int) s.toks = Value.int ((ns.count k : Nat) : Int) s.toks
  rw [ec]
end
mutual
inductive Dd (K : PySem.W.Frag) (H : Hp) : V → PyData → Prop
  | non : Dd K H .non .none
  | bl (b : Bool) : Dd K H (.bl b) (.bool b)
  | int (i : Int) : Dd K H (.int i) (.int i)
  | str (x : Str) : Dd K H (.str x) (.str x)
  | lst {a : Addr} {xs : List V} {ds : List PyData} : SqL K H a xs → DdAll K H xs ds → Dd K H (.ref a) (.list ds)
  | tup {a : Addr} {xs : List V} {ds : List PyData} : ZT H a xs → DdAll K H xs ds → Dd K H (.ref a) (.tuple ds)
inductive DdAll (K : PySem.W.Frag) (H : Hp) : List V → List PyData → Prop
  | nil : DdAll K H [] []
  | cons {v : V} {vs : List V} {d : PyData} {ds : List PyData} : Dd K H v d → DdAll K H vs ds → DdAll K H (v :: vs) (d :: ds)
end
mutual
theorem Dd.dp {K : PySem.W.Frag} {H : Hp} : ∀ (d : PyData) (v : V), Dd K H v d → Dp K H v d
  | .none, _, h => by cases h; exact .non
  | .bool b, _, h => by cases h; exact .bl b
  | .int i, _, h => by cases h; exact .int i
  | .str x, _, h => by cases h; exact .str x
  | .list ds, _, h => by
    cases h with
    | lst hs ha => exact .lst hs (DdAll.dp ds _ ha)
  | .tuple ds, _, h => by
    cases h with
    | tup hs ha => exact .tup hs.sq (DdAll.dp ds _ ha)
  | .dict _, _, h => by cases h
theorem DdAll.dp {K : PySem.W.Frag} {H : Hp} : ∀ (ds : List PyData) (vs : List V), DdAll K H vs ds → DpAll K H vs ds
  | [], _, h => by cases h; exact .nil
  | d :: ds, _, h => by
    cases h with
    | cons h1 h2 => exact .cons (Dd.dp d _ h1) (DdAll.dp ds _ h2)
end
end SF
namespace SF
open PySem PySem.Spec PyProof.Rows L2
abbrev Ex (H H' : Hp) : Prop := Evl.Ex H H'
theorem ex_refl {H : Hp} : Ex H H := Evl.Ex.refl H
theorem ex_tr {H H1 H2 : Hp} (a : Ex H H1) (b : Ex H1 H2) : Ex H H2 := Evl.Ex.trans a b
theorem ex_new {H : Hp} {p : Addr} {o : HO} (h : H p = none) : Ex H (upd H p o) := Evl.Ex.new h
theorem ex_back {H H' : Hp} {p : Addr} (e : Ex H H') (h : H' p = none) : H p = none := Evl.fresh_back e h
theorem zt_up {H H' : Hp} {a : Addr} {xs : List V} (e : Ex H H') (h : ZT H a xs) : ZT H' a xs := let ⟨o, h1, h2⟩ := h; ⟨o, e a _ h1, h2⟩
mutual
theorem dp_mono {K : PySem.W.Frag} {H H' : Hp} (e : Ex H H') : ∀ (d : PyData) (v : V), Dd K H v d → Dd K H' v d
  | .none, _, h => by cases h; exact .non
  | .bool b, _, h => by cases h; exact .bl b
  | .int i, _, h => by cases h; exact .int i
  | .str x, _, h => by cases h; exact .str x
  | .list ds, _, h => by
    cases h with
    | lst hs ha => exact .lst (Evl.ex_l e hs) (dpAll_mono e ds _ ha)
  | .tuple ds, _, h => by
    cases h with
    | tup hs ha => exact .tup (zt_up e hs) (dpAll_mono e ds _ ha)
  | .dict _, _, h => by cases h
theorem dpAll_mono {K : PySem.W.Frag} {H H' : Hp} (e : Ex H H') : ∀ (ds : List PyData) (vs : List V), DdAll K H vs ds → DdAll K H' vs ds
  | [], _, h => by cases h; exact .nil
  | d :: ds, _, h => by
    cases h with
    | cons h1 h2 => exact .cons (dp_mono e d _ h1) (dpAll_mono e ds _ h2)
end
theorem Dd.up {K : PySem.W.Frag} {H H' : Hp} {v : V} {d : PyData} (h : Dd K H v d) (e : Ex H H') : Dd K H' v d := dp_mono e d v h
theorem DdAll.up {K : PySem.W.Frag} {H H' : Hp} {vs : List V} {ds : List PyData} (h : DdAll K H vs ds) (e : Ex H H') : DdAll K H' vs ds := dpAll_mono e ds vs h
mutual
def tupO : PyData → Bool
  | .none => true
  | .bool _ => true
  | .int _ => true
  | .str _ => true
  | .list _ => false
  | .tuple xs => tupOAll xs
  | .dict _ => false
def tupOAll : List PyData → Bool
  | [] => true
  | x :: xs => tupO x && tupOAll xs
end
def TEx (H H' : Hp) : Prop := ∀ a xs, ZT H a xs → ZT H' a xs
theorem tex_refl {H : Hp} : TEx H H := fun _ _ h => h
theorem tex_tr {H H1 H2 : Hp} (a : TEx H H1) (b : TEx H1 H2) : TEx H H2 := fun p xs h => b p xs (a p xs h)
theorem tex_of {H H' : Hp} (e : Ex H H') : TEx H H' := fun _ _ h => zt_up e h
theorem tex_upd {H : Hp} {l : Addr} {xs ys : List V} (h : H l = some (.lst xs)) : TEx H (upd H l (.lst ys)) := fun a zs q => by
  obtain ⟨o, q, d⟩ := q
  refine ⟨o, ?_, d⟩
  rw [upd_ne (by rintro rfl; rw [h] at q; cases q)]
  exact q
mutual
theorem dp_tex {K : PySem.W.Frag} {H H' : Hp} (e : TEx H H') : ∀ (d : PyData) (v : V), tupO d = true → Dd K H v d → Dd K H' v d
  | .none, _, _, h => by cases h; exact .non
  | .bool b, _, _, h => by cases h; exact .bl b
  | .int i, _, _, h => by cases h; exact .int i
  | .str x, _, _, h => by cases h; exact .str x
  | .list ds, _, t, h => by simp [tupO] at t
  | .tuple ds, _, t, h => by
    cases h with
    | tup hs ha => exact .tup (e _ _ hs) (dpAll_tex e ds _ (by simpa [tupO] using t) ha)
  | .dict _, _, _, h => by cases h
theorem dpAll_tex {K : PySem.W.Frag} {H H' : Hp} (e : TEx H H') : ∀ (ds : List PyData) (vs : List V), tupOAll ds = true → DdAll K H vs ds → DdAll K H' vs ds
  | [], _, _, h => by cases h; exact .nil
  | d :: ds, _, t, h => by
    have t' : tupO d = true ∧ tupOAll ds = true := by simpa [tupOAll] using t
    cases h with
    | cons h1 h2 => exact .cons (dp_tex e d _ t'.1 h1) (dpAll_tex e ds _ t'.2 h2)
end
theorem Dd.tx {K : PySem.W.Frag} {H H' : Hp} {v : V} {d : PyData} (h : Dd K H v d) (e : TEx H H') (t : tupO d = true) : Dd K H' v d := dp_tex e d v t h
theorem DdAll.tx {K : PySem.W.Frag} {H H' : Hp} {vs : List V} {ds : List PyData} (h : DdAll K H vs ds) (e : TEx H H') (t : tupOAll ds = true) : DdAll K H' vs ds := dpAll_tex e ds vs t h
theorem tupOAll_iff : ∀ {ds : List PyData}, tupOAll ds = true ↔ ∀ d ∈ ds, tupO d = true
  | [] => by simp [tupOAll]
  | d :: ds => by simp [tupOAll, tupOAll_iff (ds := ds)]
theorem DdAll.len {K : PySem.W.Frag} {H : Hp} : ∀ {vs : List V} {ds : List PyData}, DdAll K H vs ds → vs.length = ds.length
  | _, _, .nil => rfl
  | _, _, .cons _ h => by rw [List.length_cons, List.length_cons, DdAll.len h]
theorem DdAll.get {K : PySem.W.Frag} {H : Hp} : ∀ {vs : List V} {ds : List PyData} {i : Nat} {d : PyData}, DdAll K H vs ds → ds[i]? = some d → ∃ v, vs[i]? = some v ∧ Dd K H v d
  | _, _, _, _, .nil, e => by simp at e
  | _, _, 0, _, .cons h _, e => by
    obtain rfl := Option.some.inj e
    exact ⟨_, rfl, h⟩
  | _, _, i + 1, _, .cons _ h, e => by
    obtain ⟨v, e1, e2⟩ := DdAll.get (i := i) h (by simpa using e)
    exact ⟨v, by simpa using e1, e2⟩
theorem DdAll.got {K : PySem.W.Frag} {H : Hp} {vs : List V} {ds : List PyData} {i : Nat} {v : V} (h : DdAll K H vs ds) (e : vs[i]? = some v) : ∃ d, ds[i]? = some d ∧ Dd K H v d := by
  have hi := (List.getElem?_eq_some_iff.mp e).1
  have hd : ds[i]? = some (ds[i]'(by rw [← h.len]; exact hi)) := List.getElem?_eq_getElem _
  obtain ⟨w, e1, e2⟩ := h.get hd
  rw [e] at e1
  obtain rfl := Option.some.inj e1
  exact ⟨_, hd, e2⟩
theorem DdAll.set {K : PySem.W.Frag} {H : Hp} {v : V} {d : PyData} (q : Dd K H v d) : ∀ {vs : List V} {ds : List PyData} (i : Nat), DdAll K H vs ds → DdAll K H (vs.set i v) (ds.set i d)
  | _, _, _, .nil => .nil
  | _, _, 0, .cons _ h => .cons q h
  | _, _, i + 1, .cons h1 h => .cons h1 (DdAll.set q i h)
theorem DdAll.app {K : PySem.W.Frag} {H : Hp} : ∀ {vs ws : List V} {ds es : List PyData}, DdAll K H vs ds → DdAll K H ws es → DdAll K H (vs ++ ws) (ds ++ es)
  | _, _, _, _, .nil, h => h
  | _, _, _, _, .cons h1 h2, h => .cons h1 (DdAll.app h2 h)
theorem DdAll.dropN {K : PySem.W.Frag} {H : Hp} : ∀ {vs : List V} {ds : List PyData} (n : Nat), DdAll K H vs ds → DdAll K H (vs.drop n) (ds.drop n)
  | _, _, 0, h => by simpa using h
  | _, _, n + 1, .nil => by simpa using DdAll.nil
  | _, _, n + 1, .cons _ h => by simpa using DdAll.dropN n h
theorem DdAll.takeN {K : PySem.W.Frag} {H : Hp} : ∀ {vs : List V} {ds : List PyData} (n : Nat), DdAll K H vs ds → DdAll K H (vs.take n) (ds.take n)
  | _, _, 0, h => by simpa using DdAll.nil
  | _, _, n + 1, .nil => by simpa using DdAll.nil
  | _, _, n + 1, .cons h1 h => by simpa using DdAll.cons h1 (DdAll.takeN n h)
theorem DdAll.ints {K : PySem.W.Frag} {H : Hp} : ∀ (ns : List Int), DdAll K H (ns.map V.int) (ns.map PyData.int)
  | [] => .nil
  | n :: ns => .cons (.int n) (DdAll.ints ns)
theorem dp_int {K : PySem.W.Frag} {H : Hp} {v : V} {i : Int} (h : Dd K H v (.int i)) : v = .int i := by cases h; rfl
theorem dp_bl {K : PySem.W.Frag} {H : Hp} {v : V} {i : Bool} (h : Dd K H v (.bool i)) : v = .bl i := by cases h; rfl
theorem dp_str {K : PySem.W.Frag} {H : Hp} {v : V} {i : Str} (h : Dd K H v (.str i)) : v = .str i := by cases h; rfl
theorem dp_non {K : PySem.W.Frag} {H : Hp} {v : V} (h : Dd K H v .none) : v = .non := by cases h; rfl
theorem dp_ints {K : PySem.W.Frag} {H : Hp} : ∀ {ns : List Int} {vs : List V}, DdAll K H vs (ns.map PyData.int) → vs = ns.map V.int
  | [], _, h => by cases h; rfl
  | n :: ns, _, h => by
    cases h with
    | cons h1 h2 => rw [dp_int h1, dp_ints h2]; rfl
theorem dp_bls {K : PySem.W.Frag} {H : Hp} : ∀ {ns : List Bool} {vs : List V}, DdAll K H vs (ns.map PyData.bool) → vs = ns.map V.bl
  | [], _, h => by cases h; rfl
  | n :: ns, _, h => by
    cases h with
    | cons h1 h2 => rw [dp_bl h1, dp_bls h2]; rfl
theorem dp_tup {K : PySem.W.Frag} {H : Hp} {v : V} {ds : List PyData} (h : Dd K H v (.tuple ds)) : ∃ a xs, v = .ref a ∧ ZT H a xs ∧ DdAll K H xs ds := by
  cases h with
  | tup hs ha => exact ⟨_, _, rfl, hs, ha⟩
theorem dp_lst {K : PySem.W.Frag} {H : Hp} {v : V} {ds : List PyData} (h : Dd K H v (.list ds)) : ∃ a xs, v = .ref a ∧ SqL K H a xs ∧ DdAll K H xs ds := by
  cases h with
  | lst hs ha => exact ⟨_, _, rfl, hs, ha⟩
def EvD (K : PySem.W.Frag) (te : TE) (σ : L2.St) (H : Hp) (d : PyData) : Prop :=
  ∀ H1, Ex H H1 → ∀ Q : VK, (∀ v H2, Ex H1 H2 → Dd K H2 v d → Q v H2) → te σ H1 Q
def EvL (K : PySem.W.Frag) (te : TE) (σ : L2.St) (H : Hp) (ds : List PyData) : Prop :=
  ∀ H1, Ex H H1 → ∀ Q : VK, (∀ p xs H2, Ex H1 H2 → H2 p = some (.lst xs) → DdAll K H2 xs ds → Q (.ref p) H2) → te σ H1 Q
def EvF (K : PySem.W.Frag) (te : TE) (σ : L2.St) (H : Hp) (ds : List PyData) : Prop :=
  ∀ H1, Ex H H1 → ∀ Q : VK, (∀ p xs H2, H1 p = none → Ex H1 H2 → H2 p = some (.lst xs) → DdAll K H2 xs ds → Q (.ref p) H2) → te σ H1 Q
def EvV (te : TE) (σ : L2.St) (H : Hp) (v : V) : Prop := ∀ H1, Ex H H1 → ∀ Q : VK, (∀ H2, Ex H1 H2 → Q v H2) → te σ H1 Q
def EvDs (K : PySem.W.Frag) (ta : TA) (σ : L2.St) (H : Hp) (ds : List PyData) : Prop :=
  ∀ H1, Ex H H1 → ∀ Q : List V → Hp → Prop, (∀ vs H2, Ex H1 H2 → DdAll K H2 vs ds → Q vs H2) → ta σ H1 Q
def EvB (tt : TT) (σ : L2.St) (H : Hp) (b : Bool) : Prop := ∀ H1, Ex H H1 → ∀ Q : Bool → Hp → Prop, (∀ H2, Ex H1 H2 → Q b H2) → tt σ H1 Q
def EvO (K : PySem.W.Frag) (to : TO) (σ : L2.St) (H : Hp) (o : Option Int) : Prop := ∀ H1, Ex H H1 → ∀ Q : Option Int → Hp → Prop, (∀ H2, Ex H1 H2 → Q o H2) → to σ H1 Q
def RD (K : PySem.W.Frag) (r : R2) (d1 d2 d : PyData) : Prop := ∀ x y H, Dd K H x d1 → Dd K H y d2 → ∀ Q : VK, (∀ v H2, Ex H H2 → Dd K H2 v d → Q v H2) → r x y H Q
def RU (K : PySem.W.Frag) (r : V → Hp → VK → Prop) (d1 d : PyData) : Prop := ∀ x H, Dd K H x d1 → ∀ Q : VK, (∀ v H2, Ex H H2 → Dd K H2 v d → Q v H2) → r x H Q
def RC (K : PySem.W.Frag) (r : List V → Hp → VK → Prop) (ds : List PyData) (d : PyData) : Prop := ∀ vs H, DdAll K H vs ds → ∀ Q : VK, (∀ v H2, Ex H H2 → Dd K H2 v d → Q v H2) → r vs H Q
def RCF (K : PySem.W.Frag) (r : List V → Hp → VK → Prop) (ds es : List PyData) : Prop := ∀ vs H, DdAll K H vs ds → ∀ Q : VK, (∀ p xs H2, H p = none → Ex H H2 → H2 p = some (.lst xs) → DdAll K H2 xs es → Q (.ref p) H2) → r vs H Q
section
variable {K : PySem.W.Frag} {σ : L2.St} {H H' : Hp} {ta tb te tx : TE} {t u : TT} {x y z v : V} {r : R2} {d d1 d2 : PyData} {ds es : List PyData}
theorem EvD.up (h : EvD K te σ H d) (e : Ex H H') : EvD K te σ H' d := fun H1 a Q q => h H1 (ex_tr e a) Q q
theorem EvL.up (h : EvL K te σ H ds) (e : Ex H H') : EvL K te σ H' ds := fun H1 a Q q => h H1 (ex_tr e a) Q q
theorem EvF.up (h : EvF K te σ H ds) (e : Ex H H') : EvF K te σ H' ds := fun H1 a Q q => h H1 (ex_tr e a) Q q
theorem EvV.up (h : EvV te σ H v) (e : Ex H H') : EvV te σ H' v := fun H1 a Q q => h H1 (ex_tr e a) Q q
theorem EvB.up {b : Bool} (h : EvB t σ H b) (e : Ex H H') : EvB t σ H' b := fun H1 a Q q => h H1 (ex_tr e a) Q q
theorem EvDs.up {ta : TA} (h : EvDs K ta σ H ds) (e : Ex H H') : EvDs K ta σ H' ds := fun H1 a Q q => h H1 (ex_tr e a) Q q
theorem EvF.l (h : EvF K te σ H ds) : EvL K te σ H ds := fun H1 a Q q => h H1 a Q fun p xs H2 _ => q p xs H2
theorem EvL.dd (h : EvL K te σ H ds) : EvD K te σ H (.list ds) := fun H1 a Q q => h H1 a Q fun p xs H2 e hp hd => q _ H2 e (.lst (SqL.of hp) hd)
theorem EvF.dd (h : EvF K te σ H ds) : EvD K te σ H (.list ds) := h.l.dd
theorem EvV.dd (h : EvV te σ H v) (hd : Dd K H v d) : EvD K te σ H d := fun H1 a Q q => h H1 a Q fun H2 e => q _ H2 e (hd.up (ex_tr a e))
theorem EvD.to (h : EvD K te σ H d) (e : d = d1) : EvD K te σ H d1 := e ▸ h
theorem EvB.to {a b : Bool} (h : EvB t σ H a) (e : a = b) : EvB t σ H b := e ▸ h
theorem EvF.to (h : EvF K te σ H ds) (e : ds = es) : EvF K te σ H es := e ▸ h
theorem ev_v (h : σ[i]? = some (some v)) : EvV (tVar i) σ H v := fun H1 _ _ q => ⟨v, h, q H1 ex_refl⟩
theorem ev_var {i : Nat} (h : σ[i]? = some (some v)) (hd : Dd K H v d) : EvD K (tVar i) σ H d := (ev_v h).dd hd
theorem ev_varI {i : Nat} {n : Int} (h : σ[i]? = some (some (.int n))) : EvD K (tVar i) σ H (.int n) := ev_var h (.int n)
theorem ev_varB {i : Nat} {n : Bool} (h : σ[i]? = some (some (.bl n))) : EvD K (tVar i) σ H (.bool n) := ev_var h (.bl n)
theorem ev_varS {i : Nat} {n : Str} (h : σ[i]? = some (some (.str n))) : EvD K (tVar i) σ H (.str n) := ev_var h (.str n)
theorem ev_varN {i : Nat} (h : σ[i]? = some (some .non)) : EvD K (tVar i) σ H .none := ev_var h .non
theorem el_var {i : Nat} {l : Addr} {xs : List V} (h : σ[i]? = some (some (.ref l))) (hl : H l = some (.lst xs)) (hd : DdAll K H xs ds) : EvL K (tVar i) σ H ds := fun H1 e Q q =>
  ⟨_, h, q l xs H1 ex_refl (e l _ hl) (hd.up e)⟩
theorem ev_cI {n : Int} : EvD K (tC (.int n)) σ H (.int n) := fun H1 _ _ q => q _ H1 ex_refl (.int n)
theorem ev_cB {n : Bool} : EvD K (tC (.bl n)) σ H (.bool n) := fun H1 _ _ q => q _ H1 ex_refl (.bl n)
theorem ev_cS {n : Str} : EvD K (tC (.str n)) σ H (.str n) := fun H1 _ _ q => q _ H1 ex_refl (.str n)
theorem ev_cN : EvD K (tC .non) σ H .none := fun H1 _ _ q => q _ H1 ex_refl .non
theorem ev_op (ha : EvD K ta σ H d1) (hb : EvD K tb σ H d2) (hr : RD K r d1 d2 d) : EvD K (tOp r ta tb) σ H d := fun H1 e Q q =>
  ha H1 e _ fun x H2 e2 hx => hb H2 (ex_tr e e2) _ fun y H3 e3 hy => hr x y H3 (hx.up e3) hy Q fun v H4 e4 hv => q v H4 (ex_tr e2 (ex_tr e3 e4)) hv
theorem ev_un {r : V → Hp → VK → Prop} (ha : EvD K ta σ H d1) (hr : RU K r d1 d) : EvD K (tUn r ta) σ H d := fun H1 e Q q =>
  ha H1 e _ fun x H2 e2 hx => hr x H2 hx Q fun v H3 e3 hv => q v H3 (ex_tr e2 e3) hv
theorem rd_orL {r s : R2} (h : RD K r d1 d2 d) : RD K (fun x y H Q => r x y H Q ∨ s x y H Q) d1 d2 d := fun x y H hx hy Q q => .inl (h x y H hx hy Q q)
theorem rd_orR {r s : R2} (h : RD K s d1 d2 d) : RD K (fun x y H Q => r x y H Q ∨ s x y H Q) d1 d2 d := fun x y H hx hy Q q => .inr (h x y H hx hy Q q)
theorem rd_I0 {g : Int → Int → Int} {i j : Int} : RD K (rI0 fun i j => .int (g i j)) (.int i) (.int j) (.int (g i j)) := fun x y H hx hy Q q => by
  cases hx; cases hy; exact ⟨i, j, rfl, rfl, q _ H ex_refl (.int _)⟩
theorem rd_B0 {g : Int → Int → Bool} {i j : Int} : RD K (rI0 fun i j => .bl (g i j)) (.int i) (.int j) (.bool (g i j)) := fun x y H hx hy Q q => by
  cases hx; cases hy; exact ⟨i, j, rfl, rfl, q _ H ex_refl (.bl _)⟩
theorem rd_I {C : Int → Int → Prop} {g : Int → Int → Int} {i j : Int} (hc : C i j) : RD K (rI C fun i j => .int (g i j)) (.int i) (.int j) (.int (g i j)) := fun x y H hx hy Q q => by
  cases hx; cases hy; exact ⟨i, j, rfl, rfl, hc, q _ H ex_refl (.int _)⟩
theorem ru_neg {i : Int} : RU K (rU fun i => .int (-i)) (.int i) (.int (-i)) := fun x H hx Q q => by
  cases hx; exact ⟨i, rfl, q _ H ex_refl (.int _)⟩
theorem rd_eq (s1 : SeqAt.shaped d1 = true) (s2 : SeqAt.shaped d2 = true) : RD K (rEqD K) d1 d2 (.bool (PyData.eqv d1 d2)) := fun x y H hx hy Q q => ⟨d1, d2, Dd.dp _ _ hx, Dd.dp _ _ hy, s1, s2, q _ H ex_refl (.bl _)⟩
theorem rd_ne (s1 : SeqAt.shaped d1 = true) (s2 : SeqAt.shaped d2 = true) : RD K (rNeD K) d1 d2 (.bool (!PyData.eqv d1 d2)) := fun x y H hx hy Q q => ⟨d1, d2, Dd.dp _ _ hx, Dd.dp _ _ hy, s1, s2, q _ H ex_refl (.bl _)⟩
theorem rd_isN : RD K (fun x y H Q => y = .non ∧ Q (.bl (decide (x = .non))) H) .none .none (.bool true) := fun x y H hx hy Q q => by
  cases hx; cases hy; exact ⟨rfl, q _ H ex_refl (.bl _)⟩
theorem atI_dp {xs : List V} {i : Int} {n : Nat} (hi : i = (n : Int)) (hx : DdAll K H xs ds) (hd : ds[n]? = some d) : ∃ v, atI xs i = some v ∧ Dd K H v d := by
  subst hi
  obtain ⟨v, e1, e2⟩ := hx.get hd
  exact ⟨v, atI_nat e1, e2⟩
theorem rd_ixL {i : Int} {n : Nat} (hi : i = (n : Int)) (hd : ds[n]? = some d) : RD K (rIx K) (.list ds) (.int i) d := fun x y H hx hy Q q => by
  cases hy
  obtain ⟨a, xs, rfl, hs, ha⟩ := dp_lst hx
  obtain ⟨v, e1, e2⟩ := atI_dp hi ha hd
  exact .inl ⟨a, xs, i, v, rfl, rfl, hs, e1, q v H ex_refl e2⟩
theorem rd_ixT {i : Int} {n : Nat} (hi : i = (n : Int)) (hd : ds[n]? = some d) : RD K (rIx K) (.tuple ds) (.int i) d := fun x y H hx hy Q q => by
  cases hy
  obtain ⟨a, xs, rfl, hs, ha⟩ := dp_tup hx
  obtain ⟨v, e1, e2⟩ := atI_dp hi ha hd
  exact .inr (.inl ⟨a, xs, i, v, rfl, rfl, hs.sq, e1, q v H ex_refl e2⟩)
theorem ea_nil : EvDs K tNil σ H [] := fun H1 _ _ q => q _ H1 ex_refl .nil
theorem ea_cons {tr : TA} (h : EvD K ta σ H d) (hr : EvDs K tr σ H ds) : EvDs K (tCons ta tr) σ H (d :: ds) := fun H1 e _ q =>
  h H1 e _ fun v H2 e2 hv => hr H2 (ex_tr e e2) _ fun vs H3 e3 hvs => q _ H3 (ex_tr e2 e3) (.cons (hv.up e3) hvs)
theorem ev_tup {ta : TA} (h : EvDs K ta σ H ds) (hl : ds.length ≤ 100000) : EvD K (tTupZ ta) σ H (.tuple ds) := fun H1 e _ q =>
  h H1 e _ fun vs H2 e2 hvs => ⟨Evl.sz_of (by rw [hvs.len]; exact hl), fun p o hp ho => q _ _ (ex_tr e2 (ex_new hp)) (.tup ⟨o, upd_same, ho⟩ (hvs.up (ex_new hp)))⟩
theorem ef_lst {ta : TA} (h : EvDs K ta σ H ds) (hl : ds.length ≤ 100000) : EvF K (tLst ta) σ H ds := fun H1 e _ q =>
  h H1 e _ fun vs H2 e2 hvs => ⟨Evl.sz_of (by rw [hvs.len]; exact hl), fun p hp => q p _ _ (ex_back e2 hp) (ex_tr e2 (ex_new hp)) upd_same (hvs.up (ex_new hp))⟩
theorem ev_cb {r : List V → Hp → VK → Prop} {ta : TA} (h : EvDs K ta σ H ds) (hr : RC K r ds d) : EvD K (tCB r ta) σ H d := fun H1 e Q q =>
  h H1 e _ fun vs H2 e2 hvs => hr vs H2 hvs Q fun v H3 e3 hv => q v H3 (ex_tr e2 e3) hv
theorem ef_cb {r : List V → Hp → VK → Prop} {ta : TA} (h : EvDs K ta σ H ds) (hr : RCF K r ds es) : EvF K (tCB r ta) σ H es := fun H1 e Q q =>
  h H1 e _ fun vs H2 e2 hvs => hr vs H2 hvs Q fun p xs H3 hp e3 h1 h2 => q p xs H3 (ex_back e2 hp) (ex_tr e2 e3) h1 h2
def SpD (K : PySem.W.Frag) (sp : Sp) (ds : List PyData) (d : PyData) : Prop := ∀ vs H, DdAll K H vs ds → ∀ (Q : VK) (E : XK), (∀ v H2, Ex H H2 → Dd K H2 v d → Q v H2) → sp vs H Q E
def SpF (K : PySem.W.Frag) (sp : Sp) (ds es : List PyData) : Prop := ∀ vs H, DdAll K H vs ds → ∀ (Q : VK) (E : XK), (∀ p xs H2, H p = none → Ex H H2 → H2 p = some (.lst xs) → DdAll K H2 xs es → Q (.ref p) H2) → sp vs H Q E
theorem ev_call {sp : Sp} {E : XK} {ta : TA} (h : EvDs K ta σ H ds) (hs : SpD K sp ds d) : EvD K (tCall sp [] E ta) σ H d := fun H1 e Q q =>
  h H1 e _ fun vs H2 e2 hvs => by
    rw [List.append_nil]
    exact hs vs H2 hvs Q E fun v H3 e3 hv => q v H3 (ex_tr e2 e3) hv
theorem ef_call {sp : Sp} {E : XK} {ta : TA} (h : EvDs K ta σ H ds) (hs : SpF K sp ds es) : EvF K (tCall sp [] E ta) σ H es := fun H1 e Q q =>
  h H1 e _ fun vs H2 e2 hvs => by
    rw [List.append_nil]
    exact hs vs H2 hvs Q E fun p xs H3 hp e3 h1 h2 => q p xs H3 (ex_back e2 hp) (ex_tr e2 e3) h1 h2
theorem rc_abs {i : Int} : RC K (fun xs H Q => ∃ i, xs = [.int i] ∧ Q (.int (if i < 0 then -i else i)) H) [.int i] (.int (if i < 0 then -i else i)) := fun vs H hv Q q => by
  cases hv with
  | cons h1 h2 => cases h1; cases h2; exact ⟨i, rfl, q _ H ex_refl (.int _)⟩
theorem rc_lenL : RC K (fun xs H Q => ∃ p ys, xs = [.ref p] ∧ (SqL K H p ys ∨ SqT K H p ys) ∧ Q (.int ys.length) H) [.list ds] (.int ds.length) := fun vs H hv Q q => by
  cases hv with
  | cons h1 h2 =>
    cases h2
    obtain ⟨a, xs, rfl, hs, ha⟩ := dp_lst h1
    refine ⟨a, xs, rfl, .inl hs, ?_⟩
    rw [ha.len]
    exact q _ H ex_refl (.int _)
theorem rc_lenT : RC K (fun xs H Q => ∃ p ys, xs = [.ref p] ∧ (SqL K H p ys ∨ SqT K H p ys) ∧ Q (.int ys.length) H) [.tuple ds] (.int ds.length) := fun vs H hv Q q => by
  cases hv with
  | cons h1 h2 =>
    cases h2
    obtain ⟨a, xs, rfl, hs, ha⟩ := dp_tup h1
    refine ⟨a, xs, rfl, .inr hs.sq, ?_⟩
    rw [ha.len]
    exact q _ H ex_refl (.int _)
theorem rc_sum {ns : List Int} : RC K (rSum K) [.list (ns.map .int)] (.int ns.sum) := fun vs H hv Q q => by
  cases hv with
  | cons h1 h2 =>
    cases h2
    obtain ⟨a, xs, rfl, hs, ha⟩ := dp_lst h1
    rw [dp_ints ha] at hs
    exact ⟨a, ns, rfl, hs, q _ H ex_refl (.int _)⟩
theorem rc_all {ns : List Bool} : RC K (rAll K) [.list (ns.map .bool)] (.bool (ns.all id)) := fun vs H hv Q q => by
  cases hv with
  | cons h1 h2 =>
    cases h2
    obtain ⟨a, xs, rfl, hs, ha⟩ := dp_lst h1
    rw [dp_bls ha] at hs
    exact ⟨a, ns, rfl, hs, q _ H ex_refl (.bl _)⟩
theorem rc_intB {b : Bool} : RC K (fun xs H Q => (∃ i, xs = [.int i] ∧ Q (.int i) H) ∨ ∃ k, xs = [.bl k] ∧ Q (.int (b2i k)) H) [.bool b] (.int (b2i b)) := fun vs H hv Q q => by
  cases hv with
  | cons h1 h2 => cases h1; cases h2; exact .inr ⟨b, rfl, q _ H ex_refl (.int _)⟩
def rListOf (K : PySem.W.Frag) : List V → Hp → VK → Prop := fun xs H Q => ∃ p ys, xs = [.ref p] ∧ (SqL K H p ys ∨ SqT K H p ys) ∧ ∀ l, H l = none → Q (.ref l) (upd H l (.lst ys))
theorem rc_tupleL : RC K (rTupleOf K) [.list ds] (.tuple ds) := fun vs H hv Q q => by
  cases hv with
  | cons h1 h2 =>
    cases h2
    obtain ⟨a, xs, rfl, hs, ha⟩ := dp_lst h1
    exact ⟨a, xs, rfl, .inl ⟨hs, fun l o hl ho => q _ _ (ex_new hl) (.tup ⟨o, upd_same, ho⟩ (ha.up (ex_new hl)))⟩⟩
theorem rc_tupleT : RC K (rTupleOf K) [.tuple ds] (.tuple ds) := fun vs H hv Q q => by
  cases hv with
  | cons h1 h2 =>
    cases h2
    obtain ⟨a, xs, rfl, hs, ha⟩ := dp_tup h1
    exact ⟨a, xs, rfl, .inr ⟨hs.sq, q _ H ex_refl (.tup hs ha)⟩⟩
theorem rc_listL : RCF K (rListOf K) [.list ds] ds := fun vs H hv Q q => by
  cases hv with
  | cons h1 h2 =>
    cases h2
    obtain ⟨a, xs, rfl, hs, ha⟩ := dp_lst h1
    exact ⟨a, xs, rfl, .inl hs, fun l hl => q l xs _ hl (ex_new hl) upd_same (ha.up (ex_new hl))⟩
theorem rc_listT : RCF K (rListOf K) [.tuple ds] ds := fun vs H hv Q q => by
  cases hv with
  | cons h1 h2 =>
    cases h2
    obtain ⟨a, xs, rfl, hs, ha⟩ := dp_tup h1
    exact ⟨a, xs, rfl, .inr hs.sq, fun l hl => q l xs _ hl (ex_new hl) upd_same (ha.up (ex_new hl))⟩
theorem call_listOf {X : Cx} : CallR X (.type "list") (rListOf X.K) := call_list_of
variable (K) in
theorem et_test {b : Bool} (h : EvD K te σ H (.bool b)) : EvB (tTest te) σ H b := fun H1 e _ q => h H1 e _ fun v H2 e2 hv => ⟨b, dp_bl hv, q H2 e2⟩
variable (K) in
theorem et_B {b : Bool} (h : EvD K te σ H (.bool b)) : EvB (tB te) σ H b := fun H1 e _ q => h H1 e _ fun v H2 e2 hv => ⟨b, dp_bl hv, q H2 e2⟩
theorem et_and {a b : Bool} (h1 : EvB t σ H a) (h2 : a = true → EvB u σ H b) : EvB (tAnd t u) σ H (a && b) := fun H1 e Q q => h1 H1 e _ fun H2 e2 => by
  cases a with
  | true => show u σ H2 Q; exact h2 rfl H2 (ex_tr e e2) Q fun H3 e3 => q H3 (ex_tr e2 e3)
  | false => show Q false H2; exact q H2 e2
theorem et_or {a b : Bool} (h1 : EvB t σ H a) (h2 : a = false → EvB u σ H b) : EvB (tOr t u) σ H (a || b) := fun H1 e Q q => h1 H1 e _ fun H2 e2 => by
  cases a with
  | true => show Q true H2; exact q H2 e2
  | false => show u σ H2 Q; exact h2 rfl H2 (ex_tr e e2) Q fun H3 e3 => q H3 (ex_tr e2 e3)
theorem et_not {a : Bool} (h1 : EvB t σ H a) : EvB (tNot t) σ H (!a) := fun H1 e _ q => h1 H1 e _ fun H2 e2 => q H2 e2
theorem et_yes : EvB tYes σ H true := fun H1 _ _ q => q H1 ex_refl
theorem ev_andV {a b : Bool} (h1 : EvD K ta σ H (.bool a)) (h2 : a = true → EvD K tb σ H (.bool b)) : EvD K (tAndV ta tb) σ H (.bool (a && b)) := fun H1 e Q q => h1 H1 e _ fun v H2 e2 hv => ⟨a, dp_bl hv, by
  cases a with
  | true => show tb σ H2 Q; exact h2 rfl H2 (ex_tr e e2) Q fun w H3 e3 hw => q w H3 (ex_tr e2 e3) hw
  | false => show Q (.bl false) H2; exact q _ H2 e2 (.bl _)⟩
theorem ev_orV {a b : Bool} (h1 : EvD K ta σ H (.bool a)) (h2 : a = false → EvD K tb σ H (.bool b)) : EvD K (tOrV ta tb) σ H (.bool (a || b)) := fun H1 e Q q => h1 H1 e _ fun v H2 e2 hv => ⟨a, dp_bl hv, by
  cases a with
  | true => show Q (.bl true) H2; exact q _ H2 e2 (.bl _)
  | false => show tb σ H2 Q; exact h2 rfl H2 (ex_tr e e2) Q fun w H3 e3 hw => q w H3 (ex_tr e2 e3) hw⟩
theorem ev_notV {a : Bool} (h1 : EvD K ta σ H (.bool a)) : EvD K (tNotV ta) σ H (.bool (!a)) := fun H1 e _ q => h1 H1 e _ fun v H2 e2 hv => ⟨a, dp_bl hv, q _ H2 e2 (.bl _)⟩
theorem ev_if {b : Bool} (h : EvB t σ H b) (h1 : b = true → EvD K ta σ H d) (h2 : b = false → EvD K tb σ H d) : EvD K (tIf t ta tb) σ H d := fun H1 e Q q => h H1 e _ fun H2 e2 => by
  cases b with
  | true => show ta σ H2 Q; exact h1 rfl H2 (ex_tr e e2) Q fun w H3 e3 hw => q w H3 (ex_tr e2 e3) hw
  | false => show tb σ H2 Q; exact h2 rfl H2 (ex_tr e e2) Q fun w H3 e3 hw => q w H3 (ex_tr e2 e3) hw
theorem ev_chain {r r' : R2} {tc : TE} {d3 : PyData} {a b : Bool} (ha : EvD K ta σ H d1) (hb : EvD K tb σ H d2) (hc : a = true → EvD K tc σ H d3) (h1 : RD K r d1 d2 (.bool a)) (h2 : a = true → RD K r' d2 d3 (.bool b)) :
    EvD K (tChain r r' ta tb tc) σ H (.bool (a && b)) := fun H1 e Q q =>
  ha H1 e _ fun x H2 e2 hx => hb H2 (ex_tr e e2) _ fun y H3 e3 hy => h1 x y H3 (hx.up e3) hy _ fun v H4 e4 hv => ⟨a, dp_bl hv, by
    cases a with
    | true =>
      refine iteT ?_
      exact hc rfl H4 (ex_tr e (ex_tr e2 (ex_tr e3 e4))) _ fun z H5 e5 hz => h2 rfl y z H5 (hy.up (ex_tr e4 e5)) hz Q fun w H6 e6 hw => q w H6 (ex_tr e2 (ex_tr e3 (ex_tr e4 (ex_tr e5 e6)))) hw
    | false =>
      refine iteF ?_
      exact q _ H4 (ex_tr e2 (ex_tr e3 e4)) (.bl _)⟩
variable {D : Ends} {tu tw : TS} {g : TG} {i : Nat}
theorem s_seq {t1 t2 : TS} (h : t1 { D with nx := t2 D } σ H) : tSeq t1 t2 D σ H := h
theorem s_next (q : D.nx σ H) : tNext D σ H := q
theorem s_asgD (h : EvD K te σ H d) (k : ∀ v H1, Ex H H1 → Dd K H1 v d → D.nx (σ.set i (some v)) H1) : tAsg te (gName i) D σ H := h H ex_refl _ fun v H1 e hv => k v H1 e hv
variable (K) in
theorem s_asgI {n : Int} (h : EvD K te σ H (.int n)) (k : ∀ H1, Ex H H1 → D.nx (σ.set i (some (.int n))) H1) : tAsg te (gName i) D σ H := h H ex_refl _ fun v H1 e hv => by
  have := k H1 e
  rw [dp_int hv]
  exact this
variable (K) in
theorem s_asgB {n : Bool} (h : EvD K te σ H (.bool n)) (k : ∀ H1, Ex H H1 → D.nx (σ.set i (some (.bl n))) H1) : tAsg te (gName i) D σ H := h H ex_refl _ fun v H1 e hv => by
  have := k H1 e
  rw [dp_bl hv]
  exact this
variable (K) in
theorem s_asgS {n : Str} (h : EvD K te σ H (.str n)) (k : ∀ H1, Ex H H1 → D.nx (σ.set i (some (.str n))) H1) : tAsg te (gName i) D σ H := h H ex_refl _ fun v H1 e hv => by
  have := k H1 e
  rw [dp_str hv]
  exact this
variable (K) in
theorem s_asgN (h : EvD K te σ H .none) (k : ∀ H1, Ex H H1 → D.nx (σ.set i (some .non)) H1) : tAsg te (gName i) D σ H := h H ex_refl _ fun v H1 e hv => by
  have := k H1 e
  rw [dp_non hv]
  exact this
theorem s_asgF (h : EvF K te σ H ds) (k : ∀ p xs H1, H p = none → Ex H H1 → H1 p = some (.lst xs) → DdAll K H1 xs ds → D.nx (σ.set i (some (.ref p))) H1) : tAsg te (gName i) D σ H := h H ex_refl _ k
theorem s_ret (h : EvD K te σ H d) (k : ∀ v H1, Ex H H1 → Dd K H1 v d → D.rt v H1) : tRet te D σ H := h H ex_refl _ k
theorem s_retF (h : EvF K te σ H ds) (k : ∀ p xs H1, H p = none → Ex H H1 → H1 p = some (.lst xs) → DdAll K H1 xs ds → D.rt (.ref p) H1) : tRet te D σ H := h H ex_refl _ k
theorem s_retV (h : EvV te σ H v) (k : ∀ H1, Ex H H1 → D.rt v H1) : tRet te D σ H := h H ex_refl _ k
theorem s_if {b : Bool} (h : EvB t σ H b) (h1 : b = true → ∀ H1, Ex H H1 → tu D σ H1) (h2 : b = false → ∀ H1, Ex H H1 → tw D σ H1) : tIfS t tu tw D σ H := h H ex_refl _ fun H1 e => by
  cases b with
  | true => show tu D σ H1; exact h1 rfl H1 e
  | false => show tw D σ H1; exact h2 rfl H1 e
theorem q_when {tz : TS} {b : Bool} (h : EvB t σ H b) (h1 : b = true → ∀ H1, Ex H H1 → tu { D with nx := tz D } σ H1) (h2 : b = false → ∀ H1, Ex H H1 → tz D σ H1) : tSeq (tIfS t tu tNext) tz D σ H := s_if (D := { D with nx := tz D }) h h1 h2
theorem s_drop (h : EvD K te σ H d) (k : ∀ H1, Ex H H1 → D.nx σ H1) : tDrop te D σ H := h H ex_refl _ fun _ H1 e _ => k H1 e
structure Own (K : PySem.W.Frag) (H0 H : Hp) (l : Addr) (ds : List PyData) : Prop where
  new : H0 l = none
  ex : Ex H0 H
  at_ : ∃ xs, H l = some (.lst xs) ∧ DdAll K H xs ds
  tup : tupOAll ds = true
theorem Own.mk' {H0 : Hp} {l : Addr} {xs : List V} (hn : H0 l = none) (e : Ex H0 H) (hl : H l = some (.lst xs)) (hd : DdAll K H xs ds) (ht : tupOAll ds = true) : Own K H0 H l ds := ⟨hn, e, ⟨xs, hl, hd⟩, ht⟩
theorem Own.up {H0 : Hp} {l : Addr} (o : Own K H0 H l ds) (e : Ex H H') : Own K H0 H' l ds :=
  ⟨o.new, ex_tr o.ex e, let ⟨xs, h1, h2⟩ := o.at_; ⟨xs, e l _ h1, h2.up e⟩, o.tup⟩
theorem Own.dp {H0 : Hp} {l : Addr} (o : Own K H0 H l ds) : Dd K H (.ref l) (.list ds) := let ⟨_, h1, h2⟩ := o.at_; .lst (SqL.of h1) h2
theorem Own.var {H0 : Hp} {l : Addr} (o : Own K H0 H l ds) (h : σ[i]? = some (some (.ref l))) : EvD K (tVar i) σ H (.list ds) := ev_var h o.dp
theorem Own.varL {H0 : Hp} {l : Addr} (o : Own K H0 H l ds) (h : σ[i]? = some (some (.ref l))) : EvL K (tVar i) σ H ds := let ⟨_, h1, h2⟩ := o.at_; el_var h h1 h2
theorem Own.put {H0 : Hp} {l : Addr} {xs ys : List V} {es : List PyData} (o : Own K H0 H l ds) (hl : H l = some (.lst xs)) (hy : DdAll K H ys es) (ht : tupOAll es = true) : Own K H0 (upd H l (.lst ys)) l es :=
  ⟨o.new, Evl.Ex.mut o.ex o.new, ⟨ys, upd_same, hy.tx (tex_upd hl) ht⟩, ht⟩
theorem tupOAll_set {d : PyData} (hd : tupO d = true) : ∀ {ds : List PyData} (j : Nat), tupOAll ds = true → tupOAll (ds.set j d) = true
  | [], _, h => h
  | a :: r, 0, h => by
    have h' : tupO a = true ∧ tupOAll r = true := by simpa [tupOAll] using h
    simp [tupOAll, hd, h'.2]
  | a :: r, j + 1, h => by
    have h' : tupO a = true ∧ tupOAll r = true := by simpa [tupOAll] using h
    simp [tupOAll, h'.1, tupOAll_set hd j h'.2]
theorem tupOAll_app : ∀ {ds es : List PyData}, tupOAll ds = true → tupOAll es = true → tupOAll (ds ++ es) = true
  | [], _, _, h => h
  | a :: r, es, h, h2 => by
    have h' : tupO a = true ∧ tupOAll r = true := by simpa [tupOAll] using h
    simp [tupOAll, h'.1, tupOAll_app h'.2 h2]
theorem s_setO {H0 : Hp} {l : Addr} {ti : TE} {io : Nat} {j : Int} {n : Nat} (o : Own K H0 H l ds) (h : EvD K te σ H d) (hd : tupO d = true) (ho : σ[io]? = some (some (.ref l))) (hi : EvD K ti σ H (.int j)) (hj : j = (n : Int)) (hn : n < ds.length)
    (k : ∀ H1, TEx H H1 → Own K H0 H1 l (ds.set n d) → D.nx σ H1) : tAsg te (gSub (tVar io) ti rSetL) D σ H := by
  refine h H ex_refl _ fun v H1 e1 hv => ⟨_, ho, ?_⟩
  refine hi H1 e1 _ fun w H2 e2 hw => ?_
  obtain rfl := dp_int hw
  have o2 := o.up (ex_tr e1 e2)
  obtain ⟨xs, h1, h2⟩ := o2.at_
  refine ⟨l, xs, j, n, rfl, rfl, h1, ?_, ?_⟩
  · subst hj; exact Evl.ixN_nat (by rw [h2.len]; exact hn)
  · exact k _ (tex_tr (tex_of (ex_tr e1 e2)) (tex_upd h1)) (o2.put h1 (DdAll.set (hv.up e2) n h2) (tupOAll_set hd n o.tup))
theorem s_appO {H0 : Hp} {l : Addr} {io : Nat} (o : Own K H0 H l ds) (ho : σ[io]? = some (some (.ref l))) (h : EvD K te σ H d) (hd : tupO d = true) (hz : ds.length < 100000)
    (k : ∀ H1, TEx H H1 → Own K H0 H1 l (ds ++ [d]) → D.nx σ H1) : tDrop (tBM K "list" rAppend (tVar io) (tCons te tNil)) D σ H := by
  obtain ⟨xs0, h10, h20⟩ := o.at_
  refine ⟨_, ho, Or.inl ⟨rfl, xs0, SqL.of h10⟩, ?_⟩
  refine h H ex_refl _ fun v H1 e1 hv => ?_
  have o2 := o.up e1
  obtain ⟨xs, h1, h2⟩ := o2.at_
  refine ⟨l, xs, v, rfl, rfl, h1, Evl.sz_lt (by rw [h2.len]; exact hz), ?_⟩
  exact k _ (tex_tr (tex_of e1) (tex_upd h1)) (o2.put h1 (h2.app (.cons hv .nil)) (tupOAll_app o.tup (by simp [tupOAll, hd])))
variable (K) in
theorem s_forR1 {ta : TA} {j : Nat} {n : Int} (h : EvDs K ta σ H [.int n]) (hn : n ≤ 100000) (hn0 : -100000 ≤ n) (Pv : Nat → L2.St → Hp → Prop) (h0 : ∀ H1, Ex H H1 → Pv 0 σ H1)
    (hs : ∀ (i : Nat) σ' H', (i : Int) < n → Pv i σ' H' → tu { D with nx := Pv (i + 1), ct := Pv (i + 1), bk := D.nx } (σ'.set j (some (.int (i : Int)))) H') (hd : ∀ σ' H', Pv n.toNat σ' H' → D.nx σ' H') : tFor (iRng1 ta) (gName j) tu D σ H :=
  h H ex_refl _ fun vs H1 e hv => by
    cases hv with
    | cons h1 h2 =>
      cases h1; cases h2
      exact ⟨n, rfl, by omega, by omega, for_range (lo := 0) (n := n.toNat) Pv (h0 H1 e) (fun i σ' H' hi p => by
        have e0 : (0 : Int) + (i : Int) = (i : Int) := Int.zero_add _
        show tu { D with nx := Pv (i + 1), ct := Pv (i + 1), bk := D.nx } (σ'.set j (some (.int ((0 : Int) + (i : Int))))) H'
        rw [e0]
        exact hs i σ' H' (by omega) p) hd⟩
variable (K) in
theorem s_forR2 {ta : TA} {j : Nat} {lo n : Int} (h : EvDs K ta σ H [.int lo, .int n]) (hn : -100000 ≤ lo ∧ lo ≤ 100000 ∧ -100000 ≤ n ∧ n ≤ 100000) (Pv : Nat → L2.St → Hp → Prop) (h0 : ∀ H1, Ex H H1 → Pv 0 σ H1)
    (hs : ∀ (i : Nat) σ' H', lo + (i : Int) < n → Pv i σ' H' → tu { D with nx := Pv (i + 1), ct := Pv (i + 1), bk := D.nx } (σ'.set j (some (.int (lo + (i : Int))))) H') (hd : ∀ σ' H', Pv (n - lo).toNat σ' H' → D.nx σ' H') : tFor (iRng2 ta) (gName j) tu D σ H :=
  h H ex_refl _ fun vs H1 e hv => by
    cases hv with
    | cons h1 h2 =>
      cases h2 with
      | cons h3 h4 =>
        cases h1; cases h3; cases h4
        exact ⟨lo, n, rfl, ⟨by omega, by omega, by omega, by omega⟩, for_range (lo := lo) (n := (n - lo).toNat) Pv (h0 H1 e) (fun i σ' H' hi p => hs i σ' H' (by omega) p) hd⟩
theorem s_while (W : Nat → L2.St → Hp → Prop) (m0 : Nat) (h0 : W m0 σ H)
    (hs : ∀ m σ' H', W m σ' H' → ∃ b, EvB t σ' H' b ∧ (b = true → ∀ H1, Ex H' H1 → ∃ N : L2.St → Hp → Prop, (∀ σ2 H2, N σ2 H2 → ∃ m', m' < m ∧ W m' σ2 H2) ∧ tu { D with nx := N, ct := N, bk := D.nx } σ' H1) ∧ (b = false → ∀ H1, Ex H' H1 → D.nx σ' H1)) : tWhile t tu D σ H :=
  ⟨W, ⟨m0, h0⟩, fun m σ' H' hw => by
    obtain ⟨b, hb, h1, h2⟩ := hs m σ' H' hw
    refine hb H' ex_refl _ fun H1 e => ?_
    cases b with
    | true => exact h1 rfl H1 e
    | false => exact h2 rfl H1 e⟩
end
end SF
namespace SF
open PySem PySem.Spec PyProof.Rows L2
section
variable {X : Cx}
theorem op_fdivB (hN : X.base.NoSeer) (ht : X.prog.given.tree = none) {k : Nat} (hr : Room k X.A) (hk : 32 ≤ k) (hst : X.stack = X.env :: X.outer) (hg : X.env.scope.isGenerator = false) (hc : X.env.scope.isCoroutine = false) :
    OpR X (binaryOp .FloorDiv) (rI (fun _ j => j ≠ 0) fun i j => .int (i.fdiv j)) := by
  intro pins s σ H x y v u Q I rx ry h
  obtain ⟨i, j, rfl, rfl, hj, q⟩ := h
  obtain ⟨t, rfl⟩ := rx
  obtain ⟨t', rfl⟩ := ry
  refine floordiv_int hj ⟨.int (i.fdiv j), H, I.tok _, ⟨_, rfl⟩, q⟩ (.inr ?_)
  refine PySem.PylongRoom.of I.nolimit ?_ ?_
  · have := hr.dp
    have e : Builtin.pylongFrames = 100 := rfl
    rw [e]
    omega
  · exact PySem.SeerAt.of (hN.keeps I.bk) ht (l := X.outer) (env := X.env) (by rw [← hst]; exact I.ok.frames) hg hc I.ok.blt I.ok.glob
def CMulB (i j : Int) : Prop := CMul i j ∨ i.natAbs.log2 + j.natAbs.log2 < 100000000
theorem CMulB.ok {i j : Int} (h : CMulB i j) : IntMulOk i j := by
  rcases h with h | h
  · exact h.ok
  have b : ∀ x : Int, Builtin.Int.intBits x ≤ x.natAbs.log2 + 1 := fun x => by
    unfold Builtin.Int.intBits
    split <;> omega
  have h1 := b i
  have h2 := b j
  have e : bitsLine = 134217728 := by decide
  unfold IntMulOk
  intro z
  rw [Bool.and_eq_true] at z
  have z2 := z.2
  unfold Builtin.Int.intTooBig at z2
  have z3 := of_decide_eq_true z2
  rw [e] at z3
  omega
theorem mulB_l {i j : Int} (h : -(2 ^ 64) < i ∧ i < 2 ^ 64) : CMulB i j := .inl (.inl h)
theorem mulB_r {i j : Int} (h : -(2 ^ 64) < j ∧ j < 2 ^ 64) : CMulB i j := .inl (.inr h)
theorem op_mulB : OpR X (binaryOp .Mult) (rI CMulB fun i j => .int (i * j)) := opI fun _ _ _ _ _ _ _ hc q => mul_int q hc.ok
theorem mulB_of {i j : Int} {a b : Nat} (ha : i.natAbs < 2 ^ a) (hb : j.natAbs < 2 ^ b) (h : a + b < 100000000) : CMulB i j := by
  have x : i.natAbs.log2 ≤ a := by
    by_cases z : i.natAbs = 0
    · rw [z]; exact Nat.le_trans (by decide : Nat.log2 0 ≤ 0) (Nat.zero_le _)
    · exact Nat.le_of_lt ((Nat.log2_lt z).mpr ha)
  have y : j.natAbs.log2 ≤ b := by
    by_cases z : j.natAbs = 0
    · rw [z]; exact Nat.le_trans (by decide : Nat.log2 0 ≤ 0) (Nat.zero_le _)
    · exact Nat.le_of_lt ((Nat.log2_lt z).mpr hb)
  exact .inr (by omega)
end
def SqK (K : PySem.W.Frag) (k : Bool) (H : Hp) (a : Addr) (xs : List V) : Prop := if k = true then SqL K H a xs else SqT K H a xs
def iterK (k : Bool) (h : Heap) (i a : Addr) (n : Nat) : Prop := if k = true then h.IsListIter i a n else h.IsTupleIter i a n
def srcK (k : Bool) (h : Heap) (a : Addr) (items : Array Value) : Prop := if k = true then h.IsList a items else h.IsTuple a items
def begO (k : Bool) (a : Addr) : Obj := if k = true then { cls := .type "list_iterator", data := .fields #[.ref a, .int 0 0] } else { cls := .type "tuple_iterator", data := .fields #[.ref a, .int 0 0] }
theorem drawsK {prog : Program} {w : World} {A : Around} (hh : A.handled = none) (k : Bool) (it a : Addr) (hne : a ≠ it) (items : Array Value) :
    Draws prog w A it [it, a] items.size (fun i v => items[i]? = some v) (fun i h => iterK k h it a i ∧ srcK k h a items) := by
  cases k with
  | true => exact Draws.list hh it a hne items
  | false => exact Draws.tuple hh it a hne items
theorem beginsK (k : Bool) (a : Addr) (items : Array Value) : Begins (.ref a) (begO k a) fun h => srcK k h a items := by
  cases k with
  | true => exact begins_list a items
  | false => exact begins_tuple a items
theorem iterK_at {k : Bool} {h h' : Heap} {i a : Addr} {n : Nat} (x : iterK k h i a n) (f : ∀ o, h.get? i = some o → h'.get? i = some o) : iterK k h' i a n := by
  cases k with
  | true => exact Heap.IsListIter.at x f
  | false => exact Heap.IsTupleIter.at x f
theorem iterK_obj {k : Bool} {h : Heap} {i a : Addr} {n : Nat} (x : iterK k h i a n) : ∃ o, h.get? i = some o ∧ ∀ v, o.data ≠ .cell v := by
  cases k with
  | true =>
    obtain ⟨o, e, _, d⟩ := (show h.IsListIter i a n from x)
    exact ⟨o, e, fun v q => by rw [d] at q; cases q⟩
  | false =>
    obtain ⟨o, e, _, d⟩ := (show h.IsTupleIter i a n from x)
    exact ⟨o, e, fun v q => by rw [d] at q; cases q⟩
theorem begO_iter {k : Bool} {h : Heap} {i a : Addr} (e : h.get? i = some (begO k a)) : iterK k h i a 0 := by
  cases k with
  | true => exact ⟨_, e, rfl, rfl⟩
  | false => exact ⟨_, e, rfl, rfl⟩
theorem sqK_src {X : Cx} {pins : List (Addr × Obj)} {σ : L2.St} {H : Hp} {s : Shared} (I : Inv X pins σ H s) {k : Bool} {a : Addr} {xs : List V} (h : SqK X.K k H a xs) : ∃ its : List Value, Vals xs its ∧ srcK k s.heap a its.toArray ∧ a < s.heap.objs.size := by
  cases k with
  | true =>
    obtain ⟨its, r, p, _⟩ := I.list h
    exact ⟨its, r, p.isList, p.lt⟩
  | false =>
    obtain ⟨its, r, p, _⟩ := I.tuple h
    exact ⟨its, r, p, p.lt⟩
theorem sqK_inj {X : Cx} {pins : List (Addr × Obj)} {σ : L2.St} {H : Hp} {s : Shared} (I : Inv X pins σ H s) {k : Bool} {a : Addr} {xs ys : List V} (h : SqK X.K k H a xs) (h' : SqK X.K k H a ys) : xs = ys := by
  cases k with
  | true => exact I.list_inj h h'
  | false => exact I.tuple_inj h h'
def ItzM (K : PySem.W.Frag) (k1 k2 : Bool) (a b : Addr) : It :=
  ⟨fun i H => ∃ (xs ys : List V) (x y : V), SqK K k1 H a xs ∧ SqK K k2 H b ys ∧ xs[i]? = some x ∧ ys[i]? = some y,
    fun i H v H' => ∃ T x y, v = .ref T ∧ H T = none ∧ H' = upd H T (.tup [x, y]) ∧ (∀ xs, SqK K k1 H a xs → xs[i]? = some x) ∧ ∀ ys, SqK K k2 H b ys → ys[i]? = some y,
    fun i H => ∃ xs ys : List V, SqK K k1 H a xs ∧ SqK K k2 H b ys ∧ i = min xs.length ys.length⟩
theorem turn_zipM {P : Program} {w : World} {K : PySem.W.Frag} {elts : List Expr} {kk : Nat} {tpos : Pos} {k1 k2 : Bool} {a b z TI TO i1 i2 : Addr} (D : ZipSep2 z TI TO i1 i2 [i1, a] [i2, b]) (n1 : a ≠ i1) (n2 : b ≠ i2) :
    Turn P w K (.Tuple elts kk tpos) (ItzM K k1 k2 a b) [z, TI, TO, i1, i2] z (fun i h => IsZip h z TI TO .none ∧ IsTupOf2 h TI (.ref i1) (.ref i2) ∧ (∃ x y, IsTupOf2 h TO x y) ∧ iterK k1 h i1 a i ∧ iterK k2 h i2 b i) where
  mem := by simp
  obj := fun i h st c hc => by
    obtain ⟨hz, hTI, ⟨x, y, hTO⟩, h1, h2⟩ := st
    have e' : c = z ∨ c = TI ∨ c = TO ∨ c = i1 ∨ c = i2 := by simpa using hc
    rcases e' with q | q | q | q | q
    · rw [q]; exact ⟨_, hz, fun v q => nomatch q⟩
    · rw [q]; exact ⟨_, hTI, fun v q => nomatch q⟩
    · rw [q]; exact ⟨_, hTO, fun v q => nomatch q⟩
    · rw [q]; exact iterK_obj h1
    · rw [q]; exact iterK_obj h2
  keep := fun i h h' st k => by
    obtain ⟨hz, hTI, ⟨x, y, hTO⟩, h1, h2⟩ := st
    exact ⟨k z (by simp) _ hz, k TI (by simp) _ hTI, ⟨x, y, k TO (by simp) _ hTO⟩, iterK_at h1 fun o q => k i1 (by simp) o q, iterK_at h2 fun o q => k i2 (by simp) o q⟩
  item := by
    intro X hP hw hK hc i pins s σ H E I hf st hg
    subst hP hw hK
    obtain ⟨hz, hTI, ⟨x0, y0, hTO⟩, h1, h2⟩ := st
    obtain ⟨xs, ys, x, y, hqx, hqy, hx, hy⟩ := hg
    obtain ⟨its, rv, p, _⟩ := sqK_src I hqx
    obtain ⟨its2, rv2, p2, _⟩ := sqK_src I hqy
    obtain ⟨u, hu, ru⟩ := rv.get hx
    obtain ⟨u2, hu2, ru2⟩ := rv2.get hy
    have G := GoesN.zip2 (prog := X.prog) (w := X.w) (A := X.A) (elts := elts) (x1 := kk) (pos := tpos) D (drawsK (A := X.A.in1) (I.ok.hd hc) k1 i1 a n1 its.toArray) (drawsK (A := X.A.in1) (I.ok.hd hc) k2 i2 b n2 its2.toArray)
    have hi1 : i < its.toArray.size := by simpa using (List.getElem?_eq_some_iff.mp hu).1
    have hi2 : i < its2.toArray.size := by simpa using (List.getElem?_eq_some_iff.mp hu2).1
    refine G.goes i s _ E (by omega) ⟨hz, hTI, ⟨x0, y0, hTO⟩, ⟨h1, p⟩, ⟨h2, p2⟩⟩ fun v h' tk hY st' hk htk => ?_
    obtain ⟨T, v1, v2, rfl, hT, e1, e2, hTup⟩ := hY
    obtain ⟨z', TI', ⟨a1, a2, TO'⟩, ⟨h1', _⟩, ⟨h2', _⟩⟩ := st'
    have ev1 : v1 = u := by
      have : its.toArray[i]? = some u := by simpa using hu
      rw [this] at e1
      exact (Option.some.inj e1).symm
    have ev2 : v2 = u2 := by
      have : its2.toArray[i]? = some u2 := by simpa using hu2
      rw [this] at e2
      exact (Option.some.inj e2).symm
    subst ev1 ev2
    have new : ObjOk X.prog X.w (upd H T (.tup [x, y])) h' T (.tup [x, y]) :=
      ⟨by show 2 ≤ sizeLine; decide, [v1, v2], .cons ru (.cons ru2 .nil), hTup⟩
    have I1 : Inv X pins σ (upd H T (.tup [x, y])) { s with heap := h', toks := tk } :=
      I.turnedNew (t' := tk) (ch := [z, TI, TO, i1, i2]) (fun c o hb q => hk c o (fun q' => hb (by
        have e' : c = z ∨ c = TO ∨ c = i1 ∨ c = i2 := by simpa using q'
        rcases e' with q | q | q | q <;> simp [q])) q) hf hT new
    refine ⟨.ref T, _, I1, rfl, ⟨T, x, y, rfl, I.hok.fresh hT, rfl, fun l hl => by rw [sqK_inj I hl hqx]; exact hx, fun l hl => by rw [sqK_inj I hl hqy]; exact hy⟩, ⟨z', TI', ⟨a1, a2, TO'⟩, h1', h2'⟩, fun c hcm => ?_⟩
    have hlt : c < s.heap.objs.size := by
      have e' : c = z ∨ c = TI ∨ c = TO ∨ c = i1 ∨ c = i2 := by simpa using hcm
      rcases e' with q | q | q | q | q
      · rw [q]; exact Heap.lt_size hz
      · rw [q]; exact Heap.lt_size hTI
      · rw [q]; exact Heap.lt_size hTO
      · rw [q]; obtain ⟨_, e1, _⟩ := iterK_obj h1; exact Heap.lt_size e1
      · rw [q]; obtain ⟨_, e1, _⟩ := iterK_obj h2; exact Heap.lt_size e1
    rw [upd_ne (Nat.ne_of_lt (Nat.lt_of_lt_of_le hlt hT))]
    exact (hf c hcm).1
  done := by
    intro X hP hw hK hc i pins s σ H E I hf st hg
    subst hP hw hK
    obtain ⟨hz, hTI, ⟨x0, y0, hTO⟩, h1, h2⟩ := st
    obtain ⟨xs, ys, hqx, hqy, hend⟩ := hg
    obtain ⟨its, rv, p, _⟩ := sqK_src I hqx
    obtain ⟨its2, rv2, p2, _⟩ := sqK_src I hqy
    have G := GoesN.zip2 (prog := X.prog) (w := X.w) (A := X.A) (elts := elts) (x1 := kk) (pos := tpos) D (drawsK (A := X.A.in1) (I.ok.hd hc) k1 i1 a n1 its.toArray) (drawsK (A := X.A.in1) (I.ok.hd hc) k2 i2 b n2 its2.toArray)
    have l1 := rv.length
    have l2 := rv2.length
    have en : i = min its.toArray.size its2.toArray.size := by simp [← l1, ← l2, hend]
    subst en
    refine G.stops s _ E ⟨hz, hTI, ⟨x0, y0, hTO⟩, ⟨h1, p⟩, ⟨h2, p2⟩⟩ fun h' tk hk htk => ?_
    exact I.turnedL (t' := tk) (ch := [z, TI, TO, i1, i2]) (fun c o hb q => hk c o (fun q' => hb (by
        have e' : c = z ∨ c = TO ∨ c = i1 ∨ c = i2 := by simpa using q'
        rcases e' with q | q | q | q <;> simp [q])) q) hf
  self := fun A i s Q E st h => wpAny_pyIter_zip st.1 h
def iZipM (K : PySem.W.Frag) (ta : TA) : TI := fun σ H R => ta σ H fun vs H1 => ∃ a b xs ys k1 k2, vs = [.ref a, .ref b] ∧ SqK K k1 H1 a xs ∧ SqK K k2 H1 b ys ∧ R (ItzM K k1 k2 a b) H1
theorem pi_zipM {X : Cx} {e e2 : Expr} {ta : TA} {p pos tpos : Pos} {elts : List Expr} {kk : Nat} (hg : Gl X "zip") (hm : X.mg "zip" = none) (ha : PA X [e, e2] ta)
    (hs : starEach [e, e2] X.env = (false, eval e X.env) :: starEach [e2] X.env := by rfl) (hpl : (backTo pos (starEach [e2] X.env)).any (·.1) = false := by rfl) :
    PI X (.Tuple elts kk tpos) (.Call (.Name "zip" p) [e, e2] [] pos) (iZipM X.K ta) := by
  refine ⟨fun pins s σ H R I h => ?_⟩
  refine Call_ (ld_blt I hg hm PyProof.Rows.boot_zip (PyProof.Rows.callWith_type1 (thn (ha.run pos pins s σ H _ I h) fun us s1 ⟨vs, H1, I1, r1, q1⟩ => ?_) hs hpl))
  obtain ⟨a, b, xs, ys, k1, k2, ex, hqx, hqy, q⟩ := q1
  subst ex
  cases r1 with
  | cons r rr =>
    cases rr with
    | cons r' rr =>
      cases rr
      cases r
      cases r'
      obtain ⟨its, rv, p1, la⟩ := sqK_src I1 hqx
      obtain ⟨its2, rv2, p2, lb⟩ := sqK_src I1 hqy
      refine zip_begins2 (beginsK k1 a its.toArray) (beginsK k2 b its2.toArray) p1 p2 fun h' hz hTI hTO g1 g2 hsz hk => wpAny_pyIter_zip hz ?_
      have I2 : Inv X pins σ H1 { s1 with heap := h' } := I1.kept (t' := s1.toks) hk
      refine ⟨s1.heap.objs.size + 4, [s1.heap.objs.size + 4, s1.heap.objs.size + 2, s1.heap.objs.size + 3, s1.heap.objs.size, s1.heap.objs.size + 1], _, _, H1, rfl, I2,
        turn_zipM (k1 := k1) (k2 := k2) (zip_sep2 (fp1 := [a]) (fp2 := [b]) (by simpa using la) (by simpa using lb)) (Nat.ne_of_lt la) (Nat.ne_of_lt (Nat.lt_succ_of_lt lb)), ⟨hz, hTI, ⟨_, _, hTO⟩, begO_iter g1, begO_iter g2⟩, fun c hcm => ?_, q⟩
      have hle : s1.heap.objs.size ≤ c := by
        have e' : c = s1.heap.objs.size + 4 ∨ c = s1.heap.objs.size + 2 ∨ c = s1.heap.objs.size + 3 ∨ c = s1.heap.objs.size ∨ c = s1.heap.objs.size + 1 := by simpa using hcm
        rcases e' with z | z | z | z | z
        · rw [z]; exact Nat.le_add_right _ _
        · rw [z]; exact Nat.le_add_right _ _
        · rw [z]; exact Nat.le_add_right _ _
        · rw [z]; exact Nat.le_refl _
        · rw [z]; exact Nat.le_add_right _ _
      exact I1.fpOk hle (I1.hok.fresh hle)
theorem meets_enum1 {v : Value} {o : Obj} {H : Heap → Prop} (B : Begins v o H) :
    Meets (Builtin.«enumerate.__new__» ⟨[.type "enumerate", v], []⟩) (fun _ R s => H s.heap ∧
      R (.ok (.ret (.ref (s.heap.push o).objs.size))) { s with heap := (s.heap.push o).push { cls := .type "enumerate", data := .fields #[.none, .bool false, .ref s.heap.objs.size, rawInt 0, .none, .none] } }) :=
  .of_wp fun prog w A R s h => by
    obtain ⟨hp, g, d, tk, os⟩ := s; obtain ⟨h1, h⟩ := h
    have hsub := sub_enumerate
    have q1 : ∀ {A' : Around} {E : Value → Shared → Prop} {Q : Value → Shared → Prop}, Q (.ref hp.objs.size) ⟨hp.push o, g, d, tk, os⟩ → wpAny (model prog w) A' (pyIter v) Q E ⟨hp, g, d, tk, os⟩ :=
      fun q => B.iter prog w _ _ ⟨hp, g, d, tk, os⟩ _ h1 q
    wp_walk using q1
    refine wpAny_stack_any fun st => wpAny_pure ?_
    split
    · rename_i c _ _ _ _ _
      cases (c == Value.type "enumerate")
      · wp_walk using q1
        exact ⟨_, rfl, h⟩
      · wp_walk using q1
        exact ⟨_, rfl, h⟩
    · wp_walk using q1
      exact ⟨_, rfl, h⟩
section
variable {prog : Program} {w : World} {A : Around} {E : Value → Shared → Prop} {s : Shared}
theorem enum_begins1 {v : Value} {o : Obj} {H : Heap → Prop} {Q : Value → Shared → Prop} (B : Begins v o H) (h1 : H s.heap)
    (h : ∀ h', IsEnum h' (s.heap.objs.size + 1) s.heap.objs.size 0 .none → h'.get? s.heap.objs.size = some o → h'.objs.size = s.heap.objs.size + 2 →
      (∀ b o, s.heap.get? b = some o → h'.get? b = some o) → Q (.ref (s.heap.objs.size + 1)) { s with heap := h' }) :
    wpAny (model prog w) A (call (.type "enumerate") [v]) Q E s := by
  refine callType_new F.called_enumerate (by decide) (F.typeCall_enumerate_1 _) (F.newCall_enumerate_1 _) (fun obj => F.args_object_init_2 obj _) F.entry_enumerate_new
    (meets_enum1 B) ⟨h1, ?_⟩
  have hz : (s.heap.push o).objs.size = s.heap.objs.size + 1 := Heap.size_push ..
  show _ ∧ _
  rw [hz]
  have he : IsEnum ((s.heap.push o).push { cls := .type "enumerate", data := .fields #[.none, .bool false, .ref s.heap.objs.size, rawInt 0, .none, .none] }) (s.heap.objs.size + 1) s.heap.objs.size 0 .none := by
    have := Heap.get?_push_size (s.heap.push o) (o := { cls := .type "enumerate", data := .fields #[.none, .bool false, .ref s.heap.objs.size, rawInt 0, .none, .none] }) rfl
    rw [hz] at this; exact this
  refine ⟨⟨_, he, rfl⟩, h _ he (Heap.get?_push_of_some _ (Heap.get?_push_size _ B.free)) (by rw [Heap.size_push, hz]) fun b o x => Heap.get?_push_of_some _ (Heap.get?_push_of_some _ x)⟩
end
def IteM (K : PySem.W.Frag) (k : Bool) (a : Addr) : It :=
  ⟨fun i H => ∃ (xs : List V) (x : V), SqK K k H a xs ∧ xs[i]? = some x, fun i H v H' => ∃ T x, v = .ref T ∧ H T = none ∧ H' = upd H T (.tup [.int (i : Nat), x]) ∧ ∀ xs, SqK K k H a xs → xs[i]? = some x, fun i H => ∃ xs : List V, SqK K k H a xs ∧ i = xs.length⟩
theorem turn_enumM {P : Program} {w : World} {K : PySem.W.Frag} {elts : List Expr} {kk : Nat} {tpos : Pos} {k : Bool} (a e it : Addr) (hei : e ≠ it) (hea : e ≠ a) (hai : a ≠ it) :
    Turn P w K (.Tuple elts kk tpos) (IteM K k a) [e, it] e (fun i h => (∃ old, IsEnum h e it (0 + ((i : Nat) : Int)) old) ∧ iterK k h it a i) where
  mem := by simp
  obj := fun i h st b hb => by
    obtain ⟨⟨old, he⟩, hi⟩ := st
    have e' : b = e ∨ b = it := by simpa using hb
    rcases e' with z | z
    · rw [z]; exact ⟨_, he, fun v q => nomatch q⟩
    · rw [z]; exact iterK_obj hi
  keep := fun i h h' st k => let ⟨⟨old, he⟩, hi⟩ := st; ⟨⟨old, k e (by simp) _ he⟩, iterK_at hi fun o q => k it (by simp) o q⟩
  item := by
    intro X hP hw hK hc i pins s σ H E I hf st hg
    subst hP hw hK
    obtain ⟨⟨old, he⟩, hit⟩ := st
    obtain ⟨xs, x, hq, hx⟩ := hg
    obtain ⟨its, rv, p, _⟩ := sqK_src I hq
    obtain ⟨u, hu, ru⟩ := rv.get hx
    have G := GoesN.enumFrom (prog := X.prog) (w := X.w) (A := X.A) (elts := elts) (x1 := kk) (pos := tpos) 0 (drawsK (A := X.A.in1) (I.ok.hd hc) k it a hai its.toArray) e hei (by simp [hei, hea]) (by simp)
    have hi1 : i < its.toArray.size := by simpa using (List.getElem?_eq_some_iff.mp hu).1
    refine G.goes i s _ E hi1 ⟨⟨old, he⟩, ⟨hit, p⟩⟩ fun v h' tk hY st' hk htk => ?_
    obtain ⟨T, t, v1, rfl, hT, e1, hTup⟩ := hY
    obtain ⟨⟨old', he'⟩, ⟨hit', _⟩⟩ := st'
    have ev1 : v1 = u := by
      have : its.toArray[i]? = some u := by simpa using hu
      rw [this] at e1
      exact (Option.some.inj e1).symm
    subst ev1
    have new : ObjOk X.prog X.w (upd H T (.tup [.int (i : Nat), x])) h' T (.tup [.int (i : Nat), x]) :=
      ⟨by show 2 ≤ sizeLine; decide, [.int (0 + (i : Int)) t, v1], .cons ⟨t, by rw [Int.zero_add]⟩ (.cons ru .nil), hTup⟩
    have I1 : Inv X pins σ (upd H T (.tup [.int (i : Nat), x])) { s with heap := h', toks := tk } := I.turnedNew (t' := tk) (ch := [e, it]) (fun c o hb q => hk c o hb q) hf hT new
    refine ⟨.ref T, _, I1, rfl, ⟨T, x, rfl, I.hok.fresh hT, rfl, fun l hl => by rw [sqK_inj I hl hq]; exact hx⟩, ⟨⟨old', he'⟩, hit'⟩, fun c hcm => ?_⟩
    have hlt : c < s.heap.objs.size := by
      have e' : c = e ∨ c = it := by simpa using hcm
      rcases e' with q | q
      · rw [q]; exact Heap.lt_size he
      · rw [q]; obtain ⟨_, e1, _⟩ := iterK_obj hit; exact Heap.lt_size e1
    rw [upd_ne (Nat.ne_of_lt (Nat.lt_of_lt_of_le hlt hT))]
    exact (hf c hcm).1
  done := by
    intro X hP hw hK hc i pins s σ H E I hf st hg
    subst hP hw hK
    obtain ⟨⟨old, he⟩, hit⟩ := st
    obtain ⟨xs, hq, rfl⟩ := hg
    obtain ⟨its, rv, p, _⟩ := sqK_src I hq
    have G := GoesN.enumFrom (prog := X.prog) (w := X.w) (A := X.A) (elts := elts) (x1 := kk) (pos := tpos) 0 (drawsK (A := X.A.in1) (I.ok.hd hc) k it a hai its.toArray) e hei (by simp [hei, hea]) (by simp)
    have en : xs.length = its.toArray.size := by simp [rv.length]
    rw [en] at he hit
    exact G.stops s _ E ⟨⟨old, he⟩, ⟨hit, p⟩⟩ fun h' tk hk htk => I.turnedL (t' := tk) (ch := [e, it]) (fun c o hb q => hk c o hb q) hf
  self := fun A i s Q E st h => let ⟨⟨_, he⟩, _⟩ := st; wpAny_pyIter_enum he h
def iEnumM (K : PySem.W.Frag) (ta : TA) : TI := fun σ H R => ta σ H fun vs H1 => ∃ a xs k, vs = [.ref a] ∧ SqK K k H1 a xs ∧ R (IteM K k a) H1
theorem pi_enumM {X : Cx} {e : Expr} {ta : TA} {p pos tpos : Pos} {elts : List Expr} {kk : Nat} (hg : Gl X "enumerate") (hm : X.mg "enumerate" = none) (ha : PA X [e] ta) (hs : starEach [e] X.env = [(false, eval e X.env)] := by rfl) :
    PI X (.Tuple elts kk tpos) (.Call (.Name "enumerate" p) [e] [] pos) (iEnumM X.K ta) := by
  refine ⟨fun pins s σ H R I h => ?_⟩
  refine Call_ (ld_blt I hg hm boot_enumerate (PyProof.Rows.callWith_type1 (thn (ha.run pos pins s σ H _ I h) fun us s1 ⟨vs, H1, I1, r1, q1⟩ => ?_) hs rfl))
  obtain ⟨a, xs, k, ex, hq, q⟩ := q1
  subst ex
  cases r1 with
  | cons r rr =>
    cases rr
    cases r
    obtain ⟨its, rv, p', la⟩ := sqK_src I1 hq
    refine enum_begins1 (beginsK k a its.toArray) p' fun h' he g1 hsz hk => wpAny_pyIter_enum he ?_
    have I2 : Inv X pins σ H1 { s1 with heap := h' } := I1.kept (t' := s1.toks) hk
    refine ⟨s1.heap.objs.size + 1, [s1.heap.objs.size + 1, s1.heap.objs.size], _, _, H1, rfl, I2, turn_enumM (k := k) a (s1.heap.objs.size + 1) s1.heap.objs.size (Nat.succ_ne_self _) (Nat.ne_of_gt (Nat.lt_succ_of_lt la)) (Nat.ne_of_lt la), ⟨⟨.none, he⟩, begO_iter g1⟩, fun b hb => ?_, q⟩
    have e' : b = s1.heap.objs.size + 1 ∨ b = s1.heap.objs.size := by simpa using hb
    have hle : s1.heap.objs.size ≤ b := by
      rcases e' with z | z
      · rw [z]; exact Nat.le_add_right _ _
      · rw [z]; exact Nat.le_refl _
    exact I1.fpOk hle (I1.hok.fresh hle)
end SF
namespace SF
open PySem PySem.Spec PyProof.Rows L2
theorem law_callS {P : Program} {w : World} {K : PySem.W.Frag} {mg mb : Str → Option Value} {CX : CXT} {k : Nat} {fa a : Addr} {fd : FuncData} {x : Str} {sp : Sp} {s1 : Shared} {vs : List Value} {ns : List Int}
    (KX : K.In s1.heap) (hns : s1.heap.Ns mainGlobals mg) (hb : s1.heap.Ns builtinsNs mb) (hbb : ∀ x : Str, x ≠ "__name__" → mb x = bootBuiltins x) (hlim : s1.heap.NoLimit) (hseer : s1.heap.NoSeer) (hg : s1.gens = #[])
    (ha : s1.heap.get? a = some { cls := .type "list", data := .seq vs.toArray }) (hi : IntsAre vs ns) (hl : ns.length ≤ sizeLine) (hr : Room k callerA)
    (F : ∀ base : Heap, K.In base → base.Ns mainGlobals mg → base.NoSeer → FnOk P w K mg base CX k fa fd [x] sp) (hbind : ∀ (s : Shared) (u : Value), BindsTo s fd ⟨[u], []⟩ [(x, u)])
    (hsp : ∀ H : Hp, Only H → SqL K H a (ns.map V.int) → sp [.ref a] H (fun v _ => v = .bl true) fun _ _ _ => False)
    (hCX : ∀ H e s', CX [] H s1 (fun _ _ _ => False) e s' → False) :
    codeAny (model P w) callerA (.call (.ref fa) ⟨[.ref a], []⟩) (fun r s' => r = .ok (.ret (.bool true)) ∧ PySem.OldK s1.heap s'.heap ∧ s'.os = s1.os ∧ AllBare s'.gens) s1 := by
  have rv := vals_ints hi
  have lenV := hi.length
  have core : ∀ H : Hp, Only H → SqL K H a (ns.map V.int) → HOk P w H s1.heap → (∀ b, H b ≠ none → b = a) → (H a ≠ none → K.lookup a = none) →
      codeAny (model P w) callerA (.call (.ref fa) ⟨[.ref a], []⟩) (fun r s' => r = .ok (.ret (.bool true)) ∧ PySem.OldK s1.heap s'.heap ∧ s'.os = s1.os ∧ AllBare s'.gens) s1 := by
    intro H hO hS hok hA hK
    have base_of : ∀ {b : Addr} {o : Obj}, s1.heap.get? b = some o → H b = none → (hidT s1.heap H).get? b = some o := fun e n => hidT_get e n
    have noT : ∀ {b : Addr} {o : Obj}, s1.heap.get? b = some o → o.cls ≠ .type "list" → H b = none := fun {b o} e d => by
      cases q : H b with
      | none => rfl
      | some u =>
        have e' : b = a := hA b (by rw [q]; simp)
        subst e'
        rw [ha] at e; cases e
        exact absurd rfl d
    have noA : ∀ {b : Addr} {o : Obj} {es : Array DictEntry} {ep : Nat}, s1.heap.get? b = some o → o.data = .dict es ep → H b = none := fun {b o es ep} e d => by
      cases q : H b with
      | none => rfl
      | some u =>
        have e' : b = a := hA b (by rw [q]; simp)
        subst e'
        rw [ha] at e; cases e
        have d' : Data.seq vs.toArray _ = Data.dict es ep := d
        cases d'
    have nsK : ∀ {b : Addr} {m : Str → Option Value}, s1.heap.Ns b m → (hidT s1.heap H).Ns b m := fun {b m} ⟨o, es, ep, e, d, r⟩ => ⟨o, es, ep, base_of e (noA e d), d, r⟩
    have hKb : K.In (hidT s1.heap H) := fun b o e => base_of (KX b o e) (by
      cases q : H b with
      | none => rfl
      | some u =>
        have e' : b = a := hA b (by rw [q]; simp)
        subst e'
        rw [hK (by rw [q]; simp)] at e; cases e)
    have hM : Mod K mg (hidT s1.heap H) := ⟨hKb, nsK hns, ⟨mb, nsK hb, hbb⟩, let ⟨mc, h1, h2⟩ := hlim; ⟨mc, nsK h1, h2⟩⟩
    have hSe : (hidT s1.heap H).NoSeer :=
      ⟨let ⟨mc, a1, b1⟩ := hseer.statics; ⟨mc, nsK a1, b1⟩, let ⟨mc, a1, b1⟩ := hseer.mods; ⟨mc, nsK a1, b1⟩, let ⟨mc, a1, b1⟩ := hseer.imp; ⟨mc, nsK a1, b1⟩,
        let ⟨mg', bm, ob, a1, b1, c1, d1, e1⟩ := hseer.main; ⟨mg', bm, ob, nsK a1, b1, base_of c1 (noT c1 (by rw [d1]; simp)), d1, e1⟩⟩
    have e0 : Env0 P w K mg (hidT s1.heap H) callerA [] s1 H := ⟨rfl, hM, fun b o e => of_hidT e, Nat.le_of_eq (hidT_size _ _), trivial, fun b hb => absurd (show b ∈ ([] : List Addr) from hb) (by simp), hok, .of_eq hg⟩
    refine codeAny_mono ((F _ hKb (nsK hns) hSe).run callerA [] s1 H ⟨[.ref a], []⟩ [.ref a] [.ref a] _ _ hr e0 (hbind s1 (.ref a)) (.cons rfl .nil) (hsp H hO hS)) fun r s' h => ?_
    cases r with
    | error e => exact (hCX H e s' h).elim
    | ok fl =>
      cases fl with
      | next => exact False.elim h
      | brk => exact False.elim h
      | cont => exact False.elim h
      | ret u =>
        obtain ⟨v, H', os, bare, un, hok', r', q⟩ := h
        have q' : v = .bl true := q
        subst q'
        obtain rfl : u = Value.bool true := r'
        refine ⟨rfl, PySem.OldK.of_keep fun b o e => ?_, os, bare⟩
        cases q : H b with
        | none => exact un.keep b o e q (by intro z; exact absurd (show b ∈ ([] : List Addr) from z) (by simp)) (by simp)
        | some u =>
          rcases hO b with z | ⟨ob, xs, z⟩
          · rw [q] at z; cases z
          · have z2 := un.frzs b ob _ z
            obtain ⟨e1, _⟩ := hok b _ z
            obtain ⟨e2, _⟩ := hok' b _ z2
            rw [e] at e1; cases e1
            exact e2
  cases hk : K.lookup a with
  | some o =>
    have e := KX a o hk
    rw [ha] at e
    cases e
    refine core (fun _ => none) (fun _ => .inl rfl) (.inr ⟨_, vs.toArray, _, hk, rfl, rfl, rfl, by rw [List.size_toArray, lenV]; exact hl, by simpa using rv⟩) (fun b u z => by have z' : (none : Option HO) = some u := z; cases z') (fun b z => absurd rfl z) fun z => absurd rfl z
  | none =>
    refine core (fun b => if b = a then some (.frz { cls := .type "list", data := .seq vs.toArray } (.lst (ns.map V.int))) else none) (fun b => ?_) (.inl (.inr ⟨{ cls := .type "list", data := .seq vs.toArray }, if_pos rfl⟩)) (fun b u z => ?_) (fun b z => ?_) fun _ => hk
    · by_cases hb : b = a
      · exact .inr ⟨_, _, if_pos hb⟩
      · exact .inl (if_neg hb)
    · by_cases hb : b = a
      · have z' := (if_pos hb).symm.trans z
        cases z'
        subst hb
        exact ⟨ha, by rw [List.length_map]; exact hl, vs, _, rv, ha⟩
      · have z' := (if_neg hb).symm.trans z
        cases z'
    · by_cases hb : b = a
      · exact hb
      · exact absurd (if_neg hb) z
theorem walk_ofS {l : PySem.W.OpenLaw} {n k : Nat} {q : Program} {loose : List Str} {XP : (Str → Option Value) → Heap → Prop} {YP : World → Heap → Prop} {d : DefRec} {K : Params → PySem.W.Frag} {CX : CXT} {sp : PySem.W.Frag → Sp} {x : Str}
    (hn : l.most = some n) (hn2 : n ≤ sizeLine) (hdf : d.params.defaults = []) (hr : Room k callerA) (hi : PyProof.Rows.importsNone q = true)
    (hY : ∀ (w : World) (h : Heap), YP w h → (K w.params).In h)
    (F : ∀ (w : World) (mg : Str → Option Value) (fa : Addr) (h : Heap), (K w.params).In h → h.Ns mainGlobals mg → mg d.name = some (.ref fa) →
      ∃ fd : FuncData, (∀ (s : Shared) (u : Value), BindsTo s fd ⟨[u], []⟩ [(x, u)]) ∧
        ∀ base : Heap, (K w.params).In base → base.Ns mainGlobals mg → base.NoSeer → FnOk l.prog w (K w.params) mg base CX k fa fd [x] (sp (K w.params)))
    (hsp : ∀ (K : PySem.W.Frag) (H : Hp) (a : Addr) (ns : List Int), ns.length ≤ n → Only H → SqL K H a (ns.map V.int) → sp K [.ref a] H (fun v _ => v = .bl true) fun _ _ _ => False)
    (hCX : ∀ (H : Hp) (s : Shared) (e : Value) (s' : Shared), CX [] H s (fun _ _ _ => False) e s' → False) :
    PySem.W.WalkO q loose XP YP l.row.toRowW d [] (fun f vs => PySem.call f vs) := by
  refine Att.attach_call hn hdf fun w s0 s1 mg mb fa o pm cd doc a vs ns G Y ho hd hcd hmg hobj hints hlen hg => ?_
  have KX := hY w _ Y
  obtain ⟨fd, hb, hF⟩ := F w mg fa _ KX G.T.g hmg
  exact law_callS KX G.T.g G.T.b G.T.builtins G.T.nolimit (G.T.seer hi) hg hobj hints (Nat.le_trans hlen hn2) hr hF hb (fun H hO hS => hsp (K w.params) H a ns hlen hO hS) fun H e s' => hCX H s1 e s'
end SF
namespace SF
open PySem PySem.Spec PyProof.Rows L2
structure Feeds (J : It) (g : TG) (n : Nat) (G : Hp → Prop) (B : Nat → Hp → L2.St → L2.St → Prop) : Prop where
  stops : ∀ H, G H → J.stop n H
  goes : ∀ i H, i < n → G H → J.go i H
  gives : ∀ i H x H', i < n → G H → J.yld i H x H' → Ex H H' ∧ ∀ (σ : L2.St) (Q : L2.St → Hp → Prop), (∀ σ', B i H' σ σ' → Q σ' H') → g x σ H' Q
def EvI (wi : TI) (g : TG) (σ : L2.St) (H : Hp) (n : Nat) (B : Nat → Hp → L2.St → L2.St → Prop) : Prop :=
  ∀ H1, Ex H H1 → ∀ R : It → Hp → Prop, (∀ J H2 G, Ex H1 H2 → (∀ H3, Ex H2 H3 → G H3) → Feeds J g n G B → R J H2) → wi σ H1 R
def EvIv (wi : TI) (g : TG) (σ : L2.St) (H : Hp) (n : Nat) (B : Nat → Hp → L2.St → L2.St → Prop) : Prop :=
  ∀ H1, Ex H H1 → ∀ R : It → Hp → Prop, (∀ J H2 G, Ex H1 H2 → (∀ H3, Ex H H3 → G H3) → Feeds J g n G B → R J H2) → wi σ H1 R
theorem EvIv.i {wi : TI} {g : TG} {σ : L2.St} {H : Hp} {n : Nat} {B : Nat → Hp → L2.St → L2.St → Prop} (h : EvIv wi g σ H n B) : EvI wi g σ H n B := fun H1 e R q =>
  h H1 e R fun J H2 G e2 hg hF => q J H2 G e2 (fun H3 e3 => hg H3 (ex_tr e (ex_tr e2 e3))) hF
theorem EvI.up {wi : TI} {g : TG} {σ : L2.St} {H H' : Hp} {n : Nat} {B : Nat → Hp → L2.St → L2.St → Prop} (h : EvI wi g σ H n B) (e : Ex H H') : EvI wi g σ H' n B := fun H1 a R q => h H1 (ex_tr e a) R q
def B1 (K : PySem.W.Frag) (j : Nat) (ds : List PyData) : Nat → Hp → L2.St → L2.St → Prop := fun i H σ σ' => ∃ x d, ds[i]? = some d ∧ Dd K H x d ∧ σ' = σ.set j (some x)
def BR (j : Nat) (lo : Int) : Nat → Hp → L2.St → L2.St → Prop := fun i _ σ σ' => σ' = σ.set j (some (.int (lo + (i : Int))))
def B2 (K : PySem.W.Frag) (j1 j2 : Nat) (ds es : List PyData) : Nat → Hp → L2.St → L2.St → Prop := fun i H σ σ' => ∃ x y d e, ds[i]? = some d ∧ es[i]? = some e ∧ Dd K H x d ∧ Dd K H y e ∧ σ' = (σ.set j1 (some x)).set j2 (some y)
def BE (K : PySem.W.Frag) (j1 j2 : Nat) (ds : List PyData) : Nat → Hp → L2.St → L2.St → Prop := fun i H σ σ' => ∃ y d, ds[i]? = some d ∧ Dd K H y d ∧ σ' = (σ.set j1 (some (.int (i : Int)))).set j2 (some y)
def BS (j : Nat) (z : Str) : Nat → Hp → L2.St → L2.St → Prop := fun i _ σ σ' => ∃ c, z.cps[i]? = some c ∧ σ' = σ.set j (some (.str ⟨#[c]⟩))
abbrev gTwo (K : PySem.W.Frag) (j1 j2 : Nat) : TG := gTup K 2 (gCons (gName j1) (gCons (gName j2) gNil))
theorem gTwo_go {K : PySem.W.Frag} {j1 j2 : Nat} {x y : V} {T : Addr} {σ : L2.St} {H : Hp} {Q : L2.St → Hp → Prop} (hT : H T = some (.tup [x, y])) (q : Q ((σ.set j1 (some x)).set j2 (some y)) H) : gTwo K j1 j2 (.ref T) σ H Q :=
  ⟨T, [x, y], rfl, SqT.of hT, rfl, x, [y], rfl, y, [], rfl, rfl, q⟩
section
variable {K : PySem.W.Frag} {σ : L2.St} {H : Hp} {ds es : List PyData} {j j1 j2 : Nat}
theorem feeds_list {a : Addr} : Feeds (Itl K a) (gName j) ds.length (fun H => Dd K H (.ref a) (.list ds)) (B1 K j ds) where
  stops := fun H h => by
    obtain ⟨b, xs, e, hs, ha⟩ := dp_lst h
    cases e
    exact ⟨xs, hs, by rw [ha.len]; exact Nat.le_refl _⟩
  goes := fun i H hi h => by
    obtain ⟨b, xs, e, hs, ha⟩ := dp_lst h
    cases e
    obtain ⟨v, e1, _⟩ := ha.get (List.getElem?_eq_getElem hi)
    exact ⟨xs, v, hs, e1⟩
  gives := fun i H x H' hi h y => by
    obtain ⟨b, xs, e, hs, ha⟩ := dp_lst h
    cases e
    obtain ⟨rfl, y⟩ := y
    obtain ⟨d, e1, e2⟩ := ha.got (y xs hs)
    exact ⟨ex_refl, fun σ Q q => q _ ⟨x, d, e1, e2, rfl⟩⟩
theorem feeds_tup {a : Addr} : Feeds (Itt K a) (gName j) ds.length (fun H => Dd K H (.ref a) (.tuple ds)) (B1 K j ds) where
  stops := fun H h => by
    obtain ⟨b, xs, e, hs, ha⟩ := dp_tup h
    cases e
    exact ⟨xs, hs.sq, by rw [ha.len]; exact Nat.le_refl _⟩
  goes := fun i H hi h => by
    obtain ⟨b, xs, e, hs, ha⟩ := dp_tup h
    cases e
    obtain ⟨v, e1, _⟩ := ha.get (List.getElem?_eq_getElem hi)
    exact ⟨xs, v, hs.sq, e1⟩
  gives := fun i H x H' hi h y => by
    obtain ⟨b, xs, e, hs, ha⟩ := dp_tup h
    cases e
    obtain ⟨rfl, y⟩ := y
    obtain ⟨d, e1, e2⟩ := ha.got (y xs hs.sq)
    exact ⟨ex_refl, fun σ Q q => q _ ⟨x, d, e1, e2, rfl⟩⟩
theorem feeds_range {lo : Int} {n : Nat} : Feeds (Itr lo n) (gName j) n (fun _ => True) (BR j lo) where
  stops := fun _ _ => Nat.le_refl _
  goes := fun _ _ hi _ => hi
  gives := fun i H x H' hi _ y => by
    obtain ⟨rfl, rfl⟩ := y
    exact ⟨ex_refl, fun σ Q q => q _ rfl⟩
theorem feeds_str {z : Str} : Feeds (Its z) (gName j) z.cps.size (fun _ => True) (BS j z) where
  stops := fun _ _ => Nat.le_refl _
  goes := fun _ _ hi _ => hi
  gives := fun i H x H' hi _ y => by
    obtain ⟨rfl, c, e, rfl⟩ := y
    exact ⟨ex_refl, fun σ Q q => q _ ⟨c, e, rfl⟩⟩
def seqD (k : Bool) (ds : List PyData) : PyData := if k = true then .list ds else .tuple ds
theorem dp_seq {k : Bool} {v : V} (h : Dd K H v (seqD k ds)) : ∃ a xs, v = .ref a ∧ SqK K k H a xs ∧ DdAll K H xs ds := by
  cases k with
  | true => exact dp_lst h
  | false =>
    obtain ⟨a, xs, e, h1, h2⟩ := dp_tup h
    exact ⟨a, xs, e, h1.sq, h2⟩
theorem feeds_zip {k1 k2 : Bool} {a b : Addr} : Feeds (ItzM K k1 k2 a b) (gTwo K j1 j2) (min ds.length es.length) (fun H => Dd K H (.ref a) (seqD k1 ds) ∧ Dd K H (.ref b) (seqD k2 es)) (B2 K j1 j2 ds es) where
  stops := fun H h => by
    obtain ⟨a', xs, e, hs, ha⟩ := dp_seq h.1
    cases e
    obtain ⟨b', ys, e, hs2, hb⟩ := dp_seq h.2
    cases e
    exact ⟨xs, ys, hs, hs2, by rw [ha.len, hb.len]⟩
  goes := fun i H hi h => by
    obtain ⟨a', xs, e, hs, ha⟩ := dp_seq h.1
    cases e
    obtain ⟨b', ys, e, hs2, hb⟩ := dp_seq h.2
    cases e
    obtain ⟨v, e1, _⟩ := ha.get (List.getElem?_eq_getElem (show i < ds.length by omega))
    obtain ⟨w, e2, _⟩ := hb.get (List.getElem?_eq_getElem (show i < es.length by omega))
    exact ⟨xs, ys, v, w, hs, hs2, e1, e2⟩
  gives := fun i H x H' hi h y => by
    obtain ⟨a', xs, e, hs, ha⟩ := dp_seq h.1
    cases e
    obtain ⟨b', ys, e, hs2, hb⟩ := dp_seq h.2
    cases e
    obtain ⟨T, v, w, rfl, hT, rfl, f1, f2⟩ := y
    obtain ⟨d, e1, e2⟩ := ha.got (f1 xs hs)
    obtain ⟨d', e3, e4⟩ := hb.got (f2 ys hs2)
    exact ⟨ex_new hT, fun σ Q q => gTwo_go upd_same (q _ ⟨v, w, d, d', e1, e3, e2.up (ex_new hT), e4.up (ex_new hT), rfl⟩)⟩
theorem feeds_enum {k : Bool} {a : Addr} : Feeds (IteM K k a) (gTwo K j1 j2) ds.length (fun H => Dd K H (.ref a) (seqD k ds)) (BE K j1 j2 ds) where
  stops := fun H h => by
    obtain ⟨a', xs, e, hs, ha⟩ := dp_seq h
    cases e
    exact ⟨xs, hs, by rw [ha.len]⟩
  goes := fun i H hi h => by
    obtain ⟨a', xs, e, hs, ha⟩ := dp_seq h
    cases e
    obtain ⟨v, e1, _⟩ := ha.get (List.getElem?_eq_getElem hi)
    exact ⟨xs, v, hs, e1⟩
  gives := fun i H x H' hi h y => by
    obtain ⟨a', xs, e, hs, ha⟩ := dp_seq h
    cases e
    obtain ⟨T, v, rfl, hT, rfl, f1⟩ := y
    obtain ⟨d, e1, e2⟩ := ha.got (f1 xs hs)
    exact ⟨ex_new hT, fun σ Q q => gTwo_go upd_same (q _ ⟨v, d, e1, e2.up (ex_new hT), rfl⟩)⟩
def iLT (K : PySem.W.Frag) (tl : TE) : TI := fun σ H R => tl σ H fun x H1 => ∃ a, x = .ref a ∧ (((∃ xs, SqL K H1 a xs) ∧ R (Itl K a) H1) ∨ ((∃ xs, SqT K H1 a xs) ∧ R (Itt K a) H1))
theorem pi_LT {X : Cx} {tg l : Expr} {tl : TE} (hl : PE X l tl) : PI X tg l (iLT X.K tl) := by
  refine ⟨fun pins s σ H R I h => ?_⟩
  refine thn (hl.run pins s σ H _ I h) fun v s1 ⟨x, H1, I1, r1, q1⟩ => ?_
  obtain ⟨a, e, q1⟩ := q1
  subst e
  cases r1
  rcases q1 with ⟨⟨xs, hq⟩, q⟩ | ⟨⟨xs, hq⟩, q⟩
  · obtain ⟨its, rv, p, hz⟩ := I1.list hq
    refine wpAny_pyIter_list p.isList ?_
    refine ⟨s1.heap.objs.size, [s1.heap.objs.size], _, _, H1, rfl, I1.kept (t' := s1.toks) fun b o e => Heap.get?_push_of_some _ e, turn_list a _, ⟨_, Heap.get?_push_size _ rfl, rfl, rfl⟩, fun b hb => ?_, q⟩
    have e : b = s1.heap.objs.size := by simpa using hb
    subst e
    exact I1.fpOk (Nat.le_refl _) (I1.hok.fresh (Nat.le_refl _))
  · obtain ⟨its, rv, p, hz⟩ := I1.tuple hq
    refine wpAny_pyIter_tuple (show s1.heap.IsTuple a its.toArray from p) ?_
    refine ⟨s1.heap.objs.size, [s1.heap.objs.size], _, _, H1, rfl, I1.kept (t' := s1.toks) fun b o e => Heap.get?_push_of_some _ e, turn_tuple a _, ⟨_, Heap.get?_push_size _ rfl, rfl, rfl⟩, fun b hb => ?_, q⟩
    have e : b = s1.heap.objs.size := by simpa using hb
    subst e
    exact I1.fpOk (Nat.le_refl _) (I1.hok.fresh (Nat.le_refl _))
theorem ei_list {tl : TE} (h : EvD K tl σ H (.list ds)) : EvI (iLT K tl) (gName j) σ H ds.length (B1 K j ds) := fun H1 e R q =>
  h H1 e _ fun v H2 e2 hv => by
    obtain ⟨a, xs, rfl, hs, ha⟩ := dp_lst hv
    exact ⟨a, rfl, .inl ⟨⟨xs, hs⟩, q _ _ _ e2 (fun H3 e3 => hv.up e3) feeds_list⟩⟩
theorem ei_tup {tl : TE} (h : EvD K tl σ H (.tuple ds)) : EvI (iLT K tl) (gName j) σ H ds.length (B1 K j ds) := fun H1 e R q =>
  h H1 e _ fun v H2 e2 hv => by
    obtain ⟨a, xs, rfl, hs, ha⟩ := dp_tup hv
    exact ⟨a, rfl, .inr ⟨⟨xs, hs.sq⟩, q _ _ _ e2 (fun H3 e3 => hv.up e3) feeds_tup⟩⟩
theorem eiv_list {i : Nat} {v : V} (h : σ[i]? = some (some v)) (hd : Dd K H v (.list ds)) : EvIv (iLT K (tVar i)) (gName j) σ H ds.length (B1 K j ds) := fun H1 e R q => by
  obtain ⟨a, xs, rfl, hs, ha⟩ := dp_lst (hd.up e)
  exact ⟨_, h, a, rfl, .inl ⟨⟨xs, hs⟩, q _ _ _ ex_refl (fun H3 e3 => hd.up e3) feeds_list⟩⟩
theorem eiv_tup {i : Nat} {v : V} (h : σ[i]? = some (some v)) (hd : Dd K H v (.tuple ds)) : EvIv (iLT K (tVar i)) (gName j) σ H ds.length (B1 K j ds) := fun H1 e R q => by
  obtain ⟨a, xs, rfl, hs, ha⟩ := dp_tup (hd.up e)
  exact ⟨_, h, a, rfl, .inr ⟨⟨xs, hs.sq⟩, q _ _ _ ex_refl (fun H3 e3 => hd.up e3) feeds_tup⟩⟩
variable (K) in
theorem ei_range1 {ta : TA} {n : Int} (h : EvDs K ta σ H [.int n]) (hn : n ≤ 100000) (hn0 : -100000 ≤ n) : EvI (iRng1 ta) (gName j) σ H n.toNat (BR j 0) := fun H1 e R q =>
  h H1 e _ fun vs H2 e2 hv => by
    cases hv with
    | cons h1 h2 =>
      cases h1; cases h2
      exact ⟨n, rfl, by omega, by omega, q _ _ _ e2 (fun _ _ => trivial) feeds_range⟩
variable (K) in
theorem ei_range2 {ta : TA} {lo n : Int} (h : EvDs K ta σ H [.int lo, .int n]) (hn : -100000 ≤ lo ∧ lo ≤ 100000 ∧ -100000 ≤ n ∧ n ≤ 100000) : EvI (iRng2 ta) (gName j) σ H (n - lo).toNat (BR j lo) := fun H1 e R q =>
  h H1 e _ fun vs H2 e2 hv => by
    cases hv with
    | cons h1 h2 =>
      cases h2 with
      | cons h3 h4 =>
        cases h1; cases h3; cases h4
        exact ⟨lo, n, rfl, ⟨by omega, by omega, by omega, by omega⟩, q _ _ _ e2 (fun _ _ => trivial) feeds_range⟩
theorem ei_zip {ta : TA} {k1 k2 : Bool} (h : EvDs K ta σ H [seqD k1 ds, seqD k2 es]) : EvI (iZipM K ta) (gTwo K j1 j2) σ H (min ds.length es.length) (B2 K j1 j2 ds es) := fun H1 e R q =>
  h H1 e _ fun vs H2 e2 hv => by
    cases hv with
    | cons h1 h2 =>
      cases h2 with
      | cons h3 h4 =>
        cases h4
        obtain ⟨a, xs, rfl, hs, ha⟩ := dp_seq h1
        obtain ⟨b, ys, rfl, hs2, hb⟩ := dp_seq h3
        exact ⟨a, b, xs, ys, k1, k2, rfl, hs, hs2, q _ _ _ e2 (fun H3 e3 => ⟨h1.up e3, h3.up e3⟩) feeds_zip⟩
theorem ei_enum {ta : TA} {k : Bool} (h : EvDs K ta σ H [seqD k ds]) : EvI (iEnumM K ta) (gTwo K j1 j2) σ H ds.length (BE K j1 j2 ds) := fun H1 e R q =>
  h H1 e _ fun vs H2 e2 hv => by
    cases hv with
    | cons h1 h2 =>
      cases h2
      obtain ⟨a, xs, rfl, hs, ha⟩ := dp_seq h1
      exact ⟨a, xs, k, rfl, hs, q _ _ _ e2 (fun H3 e3 => h1.up e3) feeds_enum⟩
variable (K) in
theorem ei_str {tl : TE} {z : Str} (h : EvD K tl σ H (.str z)) : EvI (iStr tl) (gName j) σ H z.cps.size (BS j z) := fun H1 e R q =>
  h H1 e _ fun v H2 e2 hv => by
    obtain rfl := dp_str hv
    exact ⟨z, rfl, q _ _ _ e2 (fun _ _ => trivial) feeds_str⟩
variable {D : Ends} {tu : TS} {g : TG} {wi : TI} {n : Nat} {B : Nat → Hp → L2.St → L2.St → Prop}
theorem for_feeds {J : It} {G : Hp → Prop} (w : Feeds J g n G B) (Pv : Nat → L2.St → Hp → Prop) (h0 : Pv 0 σ H) (hG : ∀ i σ H, i ≤ n → Pv i σ H → G H)
    (hs : ∀ i σ σ' H H', i < n → Pv i σ H → Ex H H' → B i H' σ σ' → tu { D with nx := Pv (i + 1), ct := Pv (i + 1), bk := D.nx } σ' H') (hd : ∀ σ H, Pv n σ H → D.nx σ H) :
    ∃ W : Nat → Nat → L2.St → Hp → Prop, (∃ m, W 0 m σ H) ∧ ∀ i m σ H, W i m σ H →
      (J.stop i H ∧ D.nx σ H) ∨ (J.go i H ∧ ∃ N : L2.St → Hp → Prop, (∀ σ' H', N σ' H' → ∃ m', m' < m ∧ W (i + 1) m' σ' H') ∧ ∀ x H', J.yld i H x H' → g x σ H' fun σ2 H2 => tu { D with nx := N, ct := N, bk := D.nx } σ2 H2) := by
  refine ⟨fun i m σ H => m = n - i ∧ i ≤ n ∧ Pv i σ H, ⟨n, by simp, Nat.zero_le _, h0⟩, ?_⟩
  rintro i m σ H ⟨rfl, hi, p⟩
  have q := hG i σ H hi p
  by_cases hlt : i < n
  · refine .inr ⟨w.goes i H hlt q, Pv (i + 1), fun σ' H' p' => ⟨n - (i + 1), by omega, rfl, hlt, p'⟩, fun x H' y => ?_⟩
    obtain ⟨e, k⟩ := w.gives i H x H' hlt q y
    exact k σ _ fun σ' hB => hs i σ σ' H H' hlt p e hB
  · have e : i = n := by omega
    subst e
    exact .inl ⟨w.stops H q, hd σ H p⟩
theorem s_forI (h : EvI wi g σ H n B) (Pv : Hp → Nat → L2.St → Hp → Prop) (h0 : ∀ H2, Ex H H2 → Pv H2 0 σ H2) (hG : ∀ H2 i σ' H', i ≤ n → Pv H2 i σ' H' → Ex H2 H')
    (hs : ∀ H2 i σ' σ'' H' H'', Ex H H2 → i < n → Pv H2 i σ' H' → Ex H' H'' → B i H'' σ' σ'' → tu { D with nx := Pv H2 (i + 1), ct := Pv H2 (i + 1), bk := D.nx } σ'' H'') (hd : ∀ H2 σ' H', Ex H H2 → Pv H2 n σ' H' → D.nx σ' H') : tFor wi g tu D σ H :=
  h H ex_refl _ fun J H2 G e2 hg w => for_feeds w (Pv H2) (h0 H2 e2) (fun i σ' H' hi p => hg H' (hG H2 i σ' H' hi p)) (fun i σ' σ'' H' H'' hi p e hB => hs H2 i σ' σ'' H' H'' e2 hi p e hB) fun σ' H' p => hd H2 σ' H' e2 p
theorem s_forV {Hb : Hp} (h : EvIv wi g σ Hb n B) (hb : Ex Hb H) (Pv : Nat → L2.St → Hp → Prop) (h0 : ∀ H2, Ex H H2 → Pv 0 σ H2) (hG : ∀ i σ' H', i ≤ n → Pv i σ' H' → Ex Hb H')
    (hs : ∀ i σ' σ'' H' H'', i < n → Pv i σ' H' → Ex H' H'' → B i H'' σ' σ'' → tu { D with nx := Pv (i + 1), ct := Pv (i + 1), bk := D.nx } σ'' H'') (hd : ∀ σ' H', Pv n σ' H' → D.nx σ' H') : tFor wi g tu D σ H :=
  h H hb _ fun J H2 G e2 hg w => for_feeds w Pv (h0 H2 e2) (fun i σ' H' hi p => hg H' (hG i σ' H' hi p)) (fun i σ' σ'' H' H'' hi p e hB => hs i σ' σ'' H' H'' hi p e hB) fun σ' H' p => hd σ' H' p
variable (K) in
theorem s_forR {ta : TA} {lo nn : Int} (h : EvDs K ta σ H [.int lo, .int nn]) (hn : -100000 ≤ lo ∧ lo ≤ 100000 ∧ -100000 ≤ nn ∧ nn ≤ 100000) (Pv : Nat → L2.St → Hp → Prop) (h0 : ∀ H1, Ex H H1 → Pv 0 σ H1)
    (hs : ∀ (i : Nat) σ' H', lo + (i : Int) < nn → Pv i σ' H' → tu { D with nx := Pv (i + 1), ct := Pv (i + 1), bk := D.nx } (σ'.set j (some (.int (lo + (i : Int))))) H') (hd : ∀ σ' H', Pv (nn - lo).toNat σ' H' → D.nx σ' H') : tFor (iRng2 ta) (gName j) tu D σ H :=
  s_forR2 K h hn Pv h0 hs hd
def givD (n : Nat) (f : Nat → Bool) (v : Nat → PyData) : List PyData := ((List.range n).filter f).map v
theorem givD_yes {n : Nat} {f : Nat → Bool} {v : Nat → PyData} (h : f n = true) : givD (n + 1) f v = givD n f v ++ [v n] := by
  unfold givD
  rw [List.range_succ, List.filter_append, List.map_append, List.filter_cons, if_pos h] <;> rfl
theorem givD_no {n : Nat} {f : Nat → Bool} {v : Nat → PyData} (h : f n = false) : givD (n + 1) f v = givD n f v := by
  unfold givD
  rw [List.range_succ, List.filter_append, List.map_append, List.filter_cons, if_neg (by rw [h]; decide)]
  show _ ++ [] = _
  rw [List.append_nil]
theorem givD_all (n : Nat) (v : Nat → PyData) : givD n (fun _ => true) v = (List.range n).map v := by
  unfold givD
  rw [List.filter_eq_self.mpr (fun _ _ => rfl)]
theorem givD_len (n : Nat) (f : Nat → Bool) (v : Nat → PyData) : (givD n f v).length ≤ n := by
  unfold givD
  rw [List.length_map]
  have h := List.length_filter_le f (List.range n)
  rw [List.length_range] at h
  exact h
theorem lc_feeds {J : It} {G : Hp → Prop} {tt : TT} {te : TE} {vs : List Nat} {H1 : Hp} {Da : Addr} {Qd : Hp → Prop} (w : Feeds J g n G B) (Pv : Nat → Hp → Prop) (h0 : Pv 0 (upd H1 Da (.lst []))) (hG : ∀ i H, i ≤ n → Pv i H → G H)
    (hs : ∀ i H H' σ2, i < n → Pv i H → Ex H H' → B i H' (wipe σ vs) σ2 → wipe σ2 vs = wipe σ vs ∧ tt σ2 H' fun b H3 =>
      if b = true then te σ2 H3 fun y H4 => ∃ acc, H4 Da = some (.lst acc) ∧ acc.length < sizeLine ∧ Pv (i + 1) (upd H4 Da (.lst (acc ++ [y]))) else Pv (i + 1) H3) (hd : ∀ H, Pv n H → Qd H) :
    ∃ W : Nat → Nat → Hp → Prop, (∃ m, W 0 m (upd H1 Da (.lst []))) ∧ ∀ i m H, W i m H →
      (J.stop i H ∧ Qd H) ∨ (J.go i H ∧ ∃ Nx : Hp → Prop, (∀ H', Nx H' → ∃ m', m' < m ∧ W (i + 1) m' H') ∧ ∀ x H', J.yld i H x H' → g x (wipe σ vs) H' fun σ2 H2 => wipe σ2 vs = wipe σ vs ∧ tt σ2 H2 fun b H3 =>
        if b = true then te σ2 H3 fun y H4 => ∃ acc, H4 Da = some (.lst acc) ∧ acc.length < sizeLine ∧ Nx (upd H4 Da (.lst (acc ++ [y]))) else Nx H3) := by
  refine ⟨fun i m H => m = n - i ∧ i ≤ n ∧ Pv i H, ⟨n, by simp, Nat.zero_le _, h0⟩, ?_⟩
  rintro i m H ⟨rfl, hi, p⟩
  have q := hG i H hi p
  by_cases hlt : i < n
  · refine .inr ⟨w.goes i H hlt q, Pv (i + 1), fun H' p' => ⟨n - (i + 1), by omega, rfl, hlt, p'⟩, fun x H' y => ?_⟩
    obtain ⟨e, k⟩ := w.gives i H x H' hlt q y
    exact k (wipe σ vs) _ fun σ' hB => hs i H H' σ' hlt p e hB
  · have e : i = n := by omega
    subst e
    exact .inl ⟨w.stops H q, hd H p⟩
theorem ef_lc {tt : TT} {te : TE} {vs : List Nat} (f : Nat → Bool) (v : Nat → PyData) (hi : EvI wi g σ H n B) (hn : n ≤ 50000) (hw : ∀ i H' σ', B i H' (wipe σ vs) σ' → wipe σ' vs = wipe σ vs)
    (hs : ∀ i H' σ', Ex H H' → i < n → B i H' (wipe σ vs) σ' → EvB tt σ' H' (f i) ∧ (f i = true → EvD K te σ' H' (v i) ∧ tupO (v i) = true)) : EvF K (tLc wi g tt te vs) σ H (givD n f v) := fun H0 e Q q =>
  hi H0 e _ fun J H1 G e1 hG w Da hD => lc_feeds w (fun i H' => Own K H1 H' Da (givD i f v)) ⟨hD, ex_new hD, ⟨[], upd_same, .nil⟩, rfl⟩
    (fun i H' _ o => hG H' o.ex) (fun i H' H'' σ2 hin o e2 hB => ⟨hw i H'' σ2 hB, by
      have eH : Ex H H'' := ex_tr e (ex_tr e1 (ex_tr o.ex e2))
      obtain ⟨ht, he⟩ := hs i H'' σ2 eH hin hB
      refine ht H'' ex_refl _ fun H3 e3 => ?_
      have o3 := o.up (ex_tr e2 e3)
      cases hf : f i with
      | true =>
        show te σ2 H3 fun y H4 => ∃ acc, H4 Da = some (.lst acc) ∧ acc.length < sizeLine ∧ Own K H1 (upd H4 Da (.lst (acc ++ [y]))) Da (givD (i + 1) f v)
        refine (he hf).1 H3 e3 _ fun y H4 e4 hy => ?_
        have o4 := o3.up e4
        obtain ⟨xs, h1, h2⟩ := o4.at_
        refine ⟨xs, h1, Evl.sz_lt (by have := givD_len i f v; rw [h2.len]; omega), ?_⟩
        rw [givD_yes hf]
        exact o4.put h1 (h2.app (.cons hy .nil)) (tupOAll_app o4.tup (by simp [tupOAll, (he hf).2]))
      | false =>
        show Own K H1 H3 Da (givD (i + 1) f v)
        rw [givD_no hf]
        exact o3⟩) (fun H' o => by
      obtain ⟨xs, h1, h2⟩ := o.at_
      exact q Da xs H' (ex_back e1 hD) (ex_tr e1 o.ex) h1 h2)
theorem ef_lc1 {te : TE} {vs : List Nat} (v : Nat → PyData) (hi : EvI wi g σ H n B) (hn : n ≤ 50000) (hw : ∀ i H' σ', B i H' (wipe σ vs) σ' → wipe σ' vs = wipe σ vs)
    (hs : ∀ i H' σ', Ex H H' → i < n → B i H' (wipe σ vs) σ' → EvD K te σ' H' (v i) ∧ tupO (v i) = true) : EvF K (tLc wi g tYes te vs) σ H ((List.range n).map v) :=
  (ef_lc (fun _ => true) v hi hn hw fun i H' σ' e h1 h2 => ⟨et_yes, fun _ => hs i H' σ' e h1 h2⟩).to (givD_all n v)
theorem hwB1 {vs : List Nat} (h : ∀ x, wipe ((wipe σ vs).set j (some x)) vs = wipe σ vs) : ∀ i H' σ', B1 K j ds i H' (wipe σ vs) σ' → wipe σ' vs = wipe σ vs := fun _ _ _ ⟨x, _, _, _, e⟩ => by rw [e]; exact h x
theorem hwBR {vs : List Nat} {lo : Int} (h : ∀ x, wipe ((wipe σ vs).set j (some x)) vs = wipe σ vs) : ∀ i H' σ', BR j lo i H' (wipe σ vs) σ' → wipe σ' vs = wipe σ vs := fun _ _ _ e => by rw [show _ = _ from e]; exact h _
theorem hwBS {vs : List Nat} {z : Str} (h : ∀ x, wipe ((wipe σ vs).set j (some x)) vs = wipe σ vs) : ∀ i H' σ', BS j z i H' (wipe σ vs) σ' → wipe σ' vs = wipe σ vs := fun _ _ _ ⟨_, _, e⟩ => by rw [e]; exact h _
theorem hwB2 {vs : List Nat} (h : ∀ x y, wipe (((wipe σ vs).set j1 (some x)).set j2 (some y)) vs = wipe σ vs) : ∀ i H' σ', B2 K j1 j2 ds es i H' (wipe σ vs) σ' → wipe σ' vs = wipe σ vs := fun _ _ _ ⟨x, y, _, _, _, _, _, _, e⟩ => by rw [e]; exact h x y
theorem hwBE {vs : List Nat} (h : ∀ x y, wipe (((wipe σ vs).set j1 (some x)).set j2 (some y)) vs = wipe σ vs) : ∀ i H' σ', BE K j1 j2 ds i H' (wipe σ vs) σ' → wipe σ' vs = wipe σ vs := fun _ _ _ ⟨y, _, _, _, e⟩ => by rw [e]; exact h _ y
end
end SF
namespace SF
abbrev Pt := List Int
abbrev Row := List Int × List Int
def plusP (a b : Pt) : Pt := List.zipWith (· + ·) a b
def timesP (m : Int) (p : Pt) : Pt := p.map (m * ·)
def unitP (n a : Nat) : Pt := (List.range n).map fun k => if k = a then 1 else 0
def Bd (n : Nat) (p : Pt) : Prop := ∀ x ∈ p, x.natAbs < 2 ^ n
def vf (p : Pt) (j : Nat) : Int := p.getD j 0
def row (R : List Row) (i : Nat) : Row := R.getD i ([], [])
def ent (R : List Row) (i c : Nat) : Int := vf (row R i).1 c
def lessR (r : Row) (m : Int) (o : Row) : Row := (plusP r.1 (timesP (-m) o.1), plusP r.2 (timesP (-m) o.2))
theorem plusP_len (a b : Pt) : (plusP a b).length = min a.length b.length := by simp [plusP]
theorem timesP_len (m : Int) (p : Pt) : (timesP m p).length = p.length := by simp [timesP]
theorem unitP_len (n a : Nat) : (unitP n a).length = n := by simp [unitP]
theorem vf_plus {a b : Pt} (h : a.length = b.length) (j : Nat) : vf (plusP a b) j = vf a j + vf b j := by
  unfold vf plusP
  simp only [List.getD_eq_getElem?_getD, List.getElem?_zipWith]
  by_cases hj : j < a.length
  · rw [List.getElem?_eq_getElem hj, List.getElem?_eq_getElem (h ▸ hj)]
    rfl
  · rw [List.getElem?_eq_none (by omega), List.getElem?_eq_none (by omega)]
    rfl
theorem vf_times (m : Int) (p : Pt) (j : Nat) : vf (timesP m p) j = m * vf p j := by
  unfold vf timesP
  simp only [List.getD_eq_getElem?_getD, List.getElem?_map]
  by_cases hj : j < p.length
  · rw [List.getElem?_eq_getElem hj]; rfl
  · rw [List.getElem?_eq_none (by omega)]; simp
theorem vf_unit (n a j : Nat) : vf (unitP n a) j = if j < n ∧ j = a then 1 else 0 := by
  unfold vf unitP
  simp only [List.getD_eq_getElem?_getD, List.getElem?_map]
  by_cases hj : j < n
  · rw [List.getElem?_range hj]
    simp [hj]
  · rw [List.getElem?_eq_none (by simpa using hj)]
    simp [hj]
theorem vf_beyond {p : Pt} {j : Nat} (h : p.length ≤ j) : vf p j = 0 := by
  unfold vf
  rw [List.getD_eq_getElem?_getD, List.getElem?_eq_none h]
  rfl
theorem vf_get {p : Pt} {j : Nat} {x : Int} (h : p[j]? = some x) : vf p j = x := by
  unfold vf
  rw [List.getD_eq_getElem?_getD, h]
  rfl
theorem get_vf {p : Pt} {j : Nat} (h : j < p.length) : p[j]? = some (vf p j) := by
  rw [List.getElem?_eq_getElem h]
  unfold vf
  rw [List.getD_eq_getElem?_getD, List.getElem?_eq_getElem h]
  rfl
theorem pt_ext {p q : Pt} (h : p.length = q.length) (e : ∀ j, j < p.length → vf p j = vf q j) : p = q := by
  apply List.ext_getElem?
  intro j
  by_cases hj : j < p.length
  · rw [get_vf hj, get_vf (h ▸ hj), e j hj]
  · rw [List.getElem?_eq_none (by omega), List.getElem?_eq_none (by omega)]
theorem vf_less {r o : Row} {m : Int} (h : r.1.length = o.1.length) (j : Nat) : vf (lessR r m o).1 j = vf r.1 j - m * vf o.1 j := by
  show vf (plusP r.1 (timesP (-m) o.1)) j = _
  rw [vf_plus (by rw [timesP_len]; exact h), vf_times, Int.neg_mul]
  rfl
theorem vf_less2 {r o : Row} {m : Int} (h : r.2.length = o.2.length) (j : Nat) : vf (lessR r m o).2 j = vf r.2 j - m * vf o.2 j := by
  show vf (plusP r.2 (timesP (-m) o.2)) j = _
  rw [vf_plus (by rw [timesP_len]; exact h), vf_times, Int.neg_mul]
  rfl
theorem row_set_eq {R : List Row} {i : Nat} {x : Row} (h : i < R.length) : row (R.set i x) i = x := by
  unfold row
  rw [List.getD_eq_getElem?_getD, List.getElem?_set_self h]
  rfl
theorem row_set_ne {R : List Row} {i k : Nat} {x : Row} (h : i ≠ k) : row (R.set i x) k = row R k := by
  unfold row
  rw [List.getD_eq_getElem?_getD, List.getD_eq_getElem?_getD, List.getElem?_set_ne h]
theorem row_get {R : List Row} {i : Nat} (h : i < R.length) : R[i]? = some (row R i) := by
  unfold row
  rw [List.getD_eq_getElem?_getD, List.getElem?_eq_getElem h]
  rfl
theorem row_mem {R : List Row} {i : Nat} (h : i < R.length) : row R i ∈ R := List.mem_of_getElem? (row_get h)
def leastN (R : List Row) (done c : Nat) : Nat → Option Nat
  | 0 => none
  | i + 1 =>
    if 0 < (ent R (done + i) c).natAbs ∧ (∀ a ∈ leastN R done c i, (ent R (done + i) c).natAbs < (ent R a c).natAbs) then some (done + i) else leastN R done c i
def leastAt (R : List Row) (done c : Nat) : Option Nat := leastN R done c (R.length - done)
theorem leastN_none {R : List Row} {done c : Nat} : ∀ {n : Nat}, leastN R done c n = none → ∀ i, i < n → ent R (done + i) c = 0
  | 0, _, i, hi => by omega
  | n + 1, h, i, hi => by
    rw [leastN] at h
    split at h
    · cases h
    · rename_i hc
      have ih := leastN_none (n := n) h
      by_cases e : i = n
      · subst e
        rw [h] at hc
        by_cases z : ent R (done + i) c = 0
        · exact z
        · exact absurd ⟨by omega, fun a ha => by cases ha⟩ hc
      · exact ih i (by omega)
theorem leastN_some {R : List Row} {done c a : Nat} : ∀ {n : Nat}, leastN R done c n = some a → done ≤ a ∧ a < done + n ∧ ent R a c ≠ 0 ∧ ∀ i, i < n → ent R (done + i) c ≠ 0 → (ent R a c).natAbs ≤ (ent R (done + i) c).natAbs
  | 0, h => by cases h
  | n + 1, h => by
    rw [leastN] at h
    split at h
    · rename_i hc
      obtain rfl := Option.some.inj h
      refine ⟨by omega, by omega, by omega, fun i hi hz => ?_⟩
      by_cases e : i = n
      · subst e; exact Nat.le_refl _
      · cases hb : leastN R done c n with
        | none => exact absurd (leastN_none hb i (by omega)) hz
        | some b =>
          obtain ⟨h1, h2, h3, h4⟩ := leastN_some hb
          have := hc.2 b hb
          have := h4 i (by omega) hz
          omega
    · rename_i hc
      obtain ⟨h1, h2, h3, h4⟩ := leastN_some (n := n) h
      refine ⟨h1, by omega, h3, fun i hi hz => ?_⟩
      by_cases e : i = n
      · subst e
        by_cases q : (ent R a c).natAbs ≤ (ent R (done + i) c).natAbs
        · exact q
        · exact absurd ⟨by omega, fun b hb => by rw [h] at hb; obtain rfl := Option.some.inj hb; omega⟩ hc
      · exact h4 i (by omega) hz
theorem leastAt_none {R : List Row} {done c : Nat} (h : leastAt R done c = none) : ∀ k, done ≤ k → k < R.length → ent R k c = 0 := fun k h1 h2 => by
  have := leastN_none h (k - done) (by omega)
  rwa [show done + (k - done) = k by omega] at this
theorem leastAt_some {R : List Row} {done c a : Nat} (h : leastAt R done c = some a) : done ≤ a ∧ a < R.length ∧ ent R a c ≠ 0 ∧ ∀ k, done ≤ k → k < R.length → ent R k c ≠ 0 → (ent R a c).natAbs ≤ (ent R k c).natAbs := by
  obtain ⟨h1, h2, h3, h4⟩ := leastN_some h
  refine ⟨h1, by omega, h3, fun k q1 q2 q3 => ?_⟩
  have := h4 (k - done) (by omega)
  rw [show done + (k - done) = k by omega] at this
  exact this q3
def swapR (R : List Row) (done a : Nat) : List Row := (R.set a (row R done)).set done (row R a)
def elimN (R : List Row) (head : Row) (done c : Nat) : Nat → List Row
  | 0 => R
  | i + 1 => (elimN R head done c i).set (done + 1 + i) (lessR (row (elimN R head done c i) (done + 1 + i)) ((ent (elimN R head done c i) (done + 1 + i) c).fdiv (vf head.1 c)) head)
def passR (R : List Row) (done c a : Nat) : List Row := elimN (swapR R done a) (row R a) done c (R.length - (done + 1))
theorem swapR_len (R : List Row) (done a : Nat) : (swapR R done a).length = R.length := by simp [swapR]
theorem swapR_row {R : List Row} {done a : Nat} (h1 : done ≤ a) (h2 : a < R.length) (k : Nat) : row (swapR R done a) k = if k = done then row R a else if k = a then row R done else row R k := by
  unfold swapR
  by_cases e : k = done
  · subst e
    rw [if_pos rfl, row_set_eq (by simp; omega)]
  · rw [if_neg e, row_set_ne (Ne.symm e)]
    by_cases e2 : k = a
    · subst e2
      rw [if_pos rfl, row_set_eq h2]
    · rw [if_neg e2, row_set_ne (Ne.symm e2)]
theorem elimN_len (R : List Row) (head : Row) (done c : Nat) : ∀ i, (elimN R head done c i).length = R.length
  | 0 => rfl
  | i + 1 => by rw [elimN, List.length_set, elimN_len R head done c i]
theorem elimN_row {R : List Row} {head : Row} {done c : Nat} : ∀ {i : Nat}, done + 1 + i ≤ R.length → ∀ k, row (elimN R head done c i) k = if done + 1 ≤ k ∧ k < done + 1 + i then lessR (row R k) ((ent R k c).fdiv (vf head.1 c)) head else row R k
  | 0, _, k => by rw [if_neg (by omega)]; rfl
  | i + 1, h, k => by
    have ih := elimN_row (R := R) (head := head) (done := done) (c := c) (i := i) (by omega)
    rw [elimN]
    by_cases e : k = done + 1 + i
    · subst e
      rw [row_set_eq (by rw [elimN_len]; omega), if_pos (by omega)]
      have e1 : row (elimN R head done c i) (done + 1 + i) = row R (done + 1 + i) := by rw [ih, if_neg (by omega)]
      unfold ent
      rw [e1]
    · rw [row_set_ne (Ne.symm e), ih]
      by_cases q : done + 1 ≤ k ∧ k < done + 1 + i
      · rw [if_pos q, if_pos (by omega)]
      · rw [if_neg q, if_neg (by omega)]
theorem passR_len (R : List Row) (done c a : Nat) : (passR R done c a).length = R.length := by rw [passR, elimN_len, swapR_len]
def oldR (R : List Row) (done a k : Nat) : Row := if k = a then row R done else row R k
theorem passR_row {R : List Row} {done c a : Nat} (h1 : done ≤ a) (h2 : a < R.length) {k : Nat} (hk : k < R.length) : row (passR R done c a) k =
    if k < done then row R k else if k = done then row R a else lessR (oldR R done a k) ((vf (oldR R done a k).1 c).fdiv (ent R a c)) (row R a) := by
  unfold passR
  rw [elimN_row (by rw [swapR_len]; omega)]
  by_cases e1 : k < done
  · rw [if_neg (by omega), if_pos e1, swapR_row h1 h2, if_neg (by omega), if_neg (by omega)]
  · rw [if_neg e1]
    by_cases e2 : k = done
    · subst e2
      rw [if_neg (by omega), if_pos rfl, swapR_row h1 h2, if_pos rfl]
    · rw [if_neg e2, if_pos (by omega)]
      unfold ent
      rw [swapR_row h1 h2, if_neg e2]
      rfl
def clearGo (done c : Nat) : Nat → List Row → Option Nat → List Row
  | 0, R, _ => R
  | _ + 1, R, none => R
  | f + 1, R, some a => clearGo done c f (passR R done c a) (leastAt (passR R done c a) (done + 1) c)
def meas (R : List Row) (c : Nat) : Option Nat → Nat
  | none => 0
  | some a => (ent R a c).natAbs
def clearedR (R : List Row) (done c : Nat) : List Row := clearGo done c (meas R c (leastAt R done c) + 1) R (leastAt R done c)
def negR (r : Row) : Row := (timesP (-1) r.1, timesP (-1) r.2)
def upN (R : List Row) (done c : Nat) : Nat → List Row
  | 0 => R
  | i + 1 => (upN R done c i).set i (lessR (row (upN R done c i) i) ((ent (upN R done c i) i c).fdiv (ent (upN R done c i) done c)) (row (upN R done c i) done))
theorem upN_len (R : List Row) (done c : Nat) : ∀ i, (upN R done c i).length = R.length
  | 0 => rfl
  | i + 1 => by rw [upN, List.length_set, upN_len R done c i]
theorem upN_row {R : List Row} {done c : Nat} (hd : done < R.length) : ∀ {i : Nat}, i ≤ done → ∀ k, row (upN R done c i) k = if k < i then lessR (row R k) ((ent R k c).fdiv (ent R done c)) (row R done) else row R k
  | 0, _, k => by rw [if_neg (by omega)]; rfl
  | i + 1, h, k => by
    have ih := upN_row (R := R) (c := c) hd (i := i) (by omega)
    rw [upN]
    have e1 : row (upN R done c i) done = row R done := by rw [ih, if_neg (by omega)]
    by_cases e : k = i
    · subst e
      rw [row_set_eq (by rw [upN_len]; omega), if_pos (by omega)]
      have e2 : row (upN R done c k) k = row R k := by rw [ih, if_neg (by omega)]
      unfold ent
      rw [e1, e2]
    · rw [row_set_ne (Ne.symm e), ih]
      by_cases q : k < i
      · rw [if_pos q, if_pos (by omega)]
      · rw [if_neg q, if_neg (by omega)]
def posR (R : List Row) (done c : Nat) : List Row := if ent R done c < 0 then R.set done (negR (row R done)) else R
def colStep (S : List Row × Nat) (c : Nat) : List Row × Nat :=
  if S.2 < (clearedR S.1 S.2 c).length ∧ ent (clearedR S.1 S.2 c) S.2 c ≠ 0 then (upN (posR (clearedR S.1 S.2 c) S.2 c) S.2 c S.2, S.2 + 1) else (clearedR S.1 S.2 c, S.2)
def initR (steps : List Pt) : List Row := (List.range steps.length).map fun i => (steps.getD i [], unitP steps.length i)
def stairN (steps : List Pt) : Nat → List Row × Nat
  | 0 => (initR steps, 0)
  | c + 1 => colStep (stairN steps c) c
def stairRows (width : Nat) (steps : List Pt) : List Row := (stairN steps width).1.take (stairN steps width).2
end SF
namespace SF
theorem fd_rem (a : Int) {b : Int} (hb : b ≠ 0) : (a - a.fdiv b * b).natAbs < b.natAbs ∧ 0 ≤ (a - a.fdiv b * b) * b := by
  by_cases h : 0 < b
  · have e : a - a.fdiv b * b = a % b := by rw [Int.fdiv_eq_ediv_of_nonneg _ (by omega), Int.emod_def, Int.mul_comm]
    rw [e]
    have h1 := Int.emod_nonneg a hb
    have h2 := Int.emod_lt_of_pos a h
    exact ⟨by omega, Int.mul_nonneg h1 (by omega)⟩
  · have h' : b < 0 := by omega
    have e : a - a.fdiv b * b = -((-a) % (-b)) := by
      rw [← Int.neg_fdiv_neg, Int.fdiv_eq_ediv_of_nonneg _ (by omega), Int.emod_def]
      grind
    rw [e]
    have h1 := Int.emod_nonneg (-a) (show -b ≠ 0 by omega)
    have h2 := Int.emod_lt_of_pos (-a) (show 0 < -b by omega)
    refine ⟨by omega, ?_⟩
    have := Int.mul_nonneg h1 (show 0 ≤ -b by omega)
    grind
theorem fd_abs (a : Int) {b : Int} (hb : b ≠ 0) : (a.fdiv b).natAbs ≤ a.natAbs / b.natAbs + 1 := by
  have h1 := (fd_rem a hb).1
  have h2 : (a.fdiv b * b).natAbs ≤ a.natAbs + (a - a.fdiv b * b).natAbs := by omega
  rw [Int.natAbs_mul] at h2
  have h3 : (a.fdiv b).natAbs * b.natAbs < a.natAbs + b.natAbs := by omega
  have h0 : 0 < b.natAbs := by omega
  have h4 : a.natAbs < (a.natAbs / b.natAbs + 1) * b.natAbs := by
    have := Nat.lt_div_mul_add (a := a.natAbs) h0
    rw [Nat.add_mul]; omega
  have h5 : (a.fdiv b).natAbs * b.natAbs < (a.natAbs / b.natAbs + 2) * b.natAbs := by
    rw [Nat.add_mul] at h4 ⊢
    omega
  have := Nat.lt_of_mul_lt_mul_right h5
  omega
structure Shp (W n : Nat) (R : List Row) : Prop where
  pt : ∀ k, k < R.length → (row R k).1.length = W
  ct : ∀ k, k < R.length → (row R k).2.length = n
def BdF (d X : Nat) (R : List Row) : Prop := ∀ k, d ≤ k → k < R.length → (∀ j, (vf (row R k).1 j).natAbs ≤ X) ∧ ∀ j, (vf (row R k).2 j).natAbs ≤ X
theorem BdF.mono {d X Y : Nat} {R : List Row} (h : BdF d X R) (e : X ≤ Y) : BdF d Y R := fun k h1 h2 => ⟨fun j => Nat.le_trans ((h k h1 h2).1 j) e, fun j => Nat.le_trans ((h k h1 h2).2 j) e⟩
theorem BdF.up {d d' X : Nat} {R : List Row} (h : BdF d X R) (e : d ≤ d') : BdF d' X R := fun k h1 h2 => h k (by omega) h2
theorem shp_less {W n : Nat} {r o : Row} {m : Int} (h1 : r.1.length = W) (h2 : r.2.length = n) (h3 : o.1.length = W) (h4 : o.2.length = n) : (lessR r m o).1.length = W ∧ (lessR r m o).2.length = n := by
  show (plusP r.1 (timesP (-m) o.1)).length = W ∧ (plusP r.2 (timesP (-m) o.2)).length = n
  rw [plusP_len, timesP_len, plusP_len, timesP_len]
  omega
section
variable {W n : Nat} {R : List Row} {done c a : Nat}
theorem shp_old (s : Shp W n R) (h1 : done ≤ a) (h2 : a < R.length) {k : Nat} (hk : k < R.length) : (oldR R done a k).1.length = W ∧ (oldR R done a k).2.length = n := by
  unfold oldR
  split
  · exact ⟨s.pt _ (by omega), s.ct _ (by omega)⟩
  · exact ⟨s.pt _ hk, s.ct _ hk⟩
theorem shp_pass (s : Shp W n R) (h1 : done ≤ a) (h2 : a < R.length) : Shp W n (passR R done c a) := by
  have key : ∀ k, k < R.length → (row (passR R done c a) k).1.length = W ∧ (row (passR R done c a) k).2.length = n := fun k hk => by
    rw [passR_row h1 h2 hk]
    split
    · exact ⟨s.pt _ hk, s.ct _ hk⟩
    · split
      · exact ⟨s.pt _ h2, s.ct _ h2⟩
      · have := shp_old s h1 h2 hk
        exact shp_less this.1 this.2 (s.pt _ h2) (s.ct _ h2)
  exact ⟨fun k hk => (key k (by rwa [passR_len] at hk)).1, fun k hk => (key k (by rwa [passR_len] at hk)).2⟩
theorem ent_pass (s : Shp W n R) (h1 : done ≤ a) (h2 : a < R.length) {k : Nat} (hk : k < R.length) (c' : Nat) : ent (passR R done c a) k c' =
    if k < done then ent R k c' else if k = done then ent R a c' else vf (oldR R done a k).1 c' - ((vf (oldR R done a k).1 c).fdiv (ent R a c)) * ent R a c' := by
  unfold ent
  rw [passR_row h1 h2 hk]
  split
  · rfl
  · split
    · rfl
    · exact vf_less (by rw [(shp_old s h1 h2 hk).1, s.pt _ h2]) _
theorem ent_pass_below (s : Shp W n R) (h1 : done ≤ a) (h2 : a < R.length) (hz : ent R a c ≠ 0) {k : Nat} (hd : done < k) (hk : k < R.length) :
    (ent (passR R done c a) k c).natAbs < (ent R a c).natAbs ∧ 0 ≤ ent (passR R done c a) k c * ent R a c := by
  rw [ent_pass s h1 h2 hk, if_neg (by omega), if_neg (by omega)]
  exact fd_rem _ hz
theorem old_bd {X : Nat} (b : BdF done X R) (h1 : done ≤ a) (h2 : a < R.length) {k : Nat} (hd : done ≤ k) (hk : k < R.length) : (∀ j, (vf (oldR R done a k).1 j).natAbs ≤ X) ∧ ∀ j, (vf (oldR R done a k).2 j).natAbs ≤ X := by
  unfold oldR
  split
  · exact b done (Nat.le_refl _) (by omega)
  · exact b k hd hk
theorem abs_sub_mul {x q y : Int} {X Qn : Nat} (hx : x.natAbs ≤ X) (hq : q.natAbs ≤ Qn) (hy : y.natAbs ≤ X) : (x - q * y).natAbs ≤ X * (Qn + 1) := by
  have h1 : (q * y).natAbs ≤ Qn * X := by rw [Int.natAbs_mul]; exact Nat.mul_le_mul hq hy
  have h2 : (x - q * y).natAbs ≤ x.natAbs + (q * y).natAbs := by omega
  rw [Nat.mul_add, Nat.mul_one, Nat.mul_comm X Qn]
  omega
theorem bd_pass (s : Shp W n R) {X A : Nat} (b : BdF done X R) (h1 : done ≤ a) (h2 : a < R.length) (hz : ent R a c ≠ 0) (hA : ∀ k, done ≤ k → k < R.length → (ent R k c).natAbs ≤ A) :
    BdF done (X * (A / (ent R a c).natAbs + 2)) (passR R done c a) := fun k hd hk => by
  rw [passR_len] at hk
  have ba := b a h1 h2
  have step : ∀ x, x ≤ X → x ≤ X * (A / (ent R a c).natAbs + 2) := fun x hx => Nat.le_trans hx (Nat.le_mul_of_pos_right _ (Nat.succ_pos _))
  rw [passR_row h1 h2 hk, if_neg (by omega)]
  split
  · exact ⟨fun j => step _ (ba.1 j), fun j => step _ (ba.2 j)⟩
  · have bo := old_bd b h1 h2 hd hk
    have sh := shp_old s h1 h2 hk
    have hq : ((vf (oldR R done a k).1 c).fdiv (ent R a c)).natAbs ≤ A / (ent R a c).natAbs + 1 := by
      refine Nat.le_trans (fd_abs _ hz) (Nat.add_le_add_right (Nat.div_le_div_right ?_) 1)
      unfold oldR
      split
      · exact hA done (Nat.le_refl _) (by omega)
      · exact hA k hd hk
    refine ⟨fun j => ?_, fun j => ?_⟩
    · rw [vf_less (by rw [sh.1, s.pt _ h2])]
      exact abs_sub_mul (bo.1 j) hq (ba.1 j)
    · rw [vf_less2 (by rw [sh.2, s.ct _ h2])]
      exact abs_sub_mul (bo.2 j) hq (ba.2 j)
end
structure C1 (W n N done c B : Nat) (R : List Row) (t : Option Nat) : Prop where
  len : R.length = N
  shp : Shp W n R
  least : t = leastAt R done c
  bd : ∃ X, 1 ≤ X ∧ BdF done X R ∧ 9 * X ^ 6 ≤ B
structure C2 (W n N done c B : Nat) (R : List Row) (t : Option Nat) : Prop where
  len : R.length = N
  shp : Shp W n R
  lt : done < N
  hz : ent R done c ≠ 0
  least : t = leastAt R (done + 1) c
  small : ∀ k, done < k → k < R.length → (ent R k c).natAbs < (ent R done c).natAbs ∧ 0 ≤ ent R k c * ent R done c
  bd : ∃ X, BdF done X R ∧ X ≤ B ∧ ∀ a, t = some a → X * (3 * (ent R done c).natAbs ^ 3 * (ent R a c).natAbs ^ 2) ≤ B
theorem pot_first {X A h h' B : Nat} (h0 : 1 ≤ h) (h1 : h ≤ X) (hA : A ≤ X) (h2 : h' < h) (hB : 9 * X ^ 6 ≤ B) (hX : 1 ≤ X) : X * (A / h + 2) * (3 * h ^ 3 * h' ^ 2) ≤ B ∧ X * (A / h + 2) ≤ B := by
  have e : (A / h + 2) * h ≤ 3 * X := by
    have := Nat.div_mul_le_self A h
    rw [Nat.add_mul]; omega
  have p1 : h ^ 2 ≤ X ^ 2 := Nat.pow_le_pow_left h1 2
  have p2 : h' ^ 2 ≤ X ^ 2 := Nat.pow_le_pow_left (by omega) 2
  constructor
  · calc X * (A / h + 2) * (3 * h ^ 3 * h' ^ 2) = X * (((A / h + 2) * h) * 3 * (h ^ 2 * h' ^ 2)) := by grind
      _ ≤ X * ((3 * X) * 3 * (X ^ 2 * X ^ 2)) := Nat.mul_le_mul_left _ (Nat.mul_le_mul (Nat.mul_le_mul_right _ e) (Nat.mul_le_mul p1 p2))
      _ = 9 * X ^ 6 := by grind
      _ ≤ B := hB
  · have e1 : A / h + 2 ≤ (A / h + 2) * h := Nat.le_mul_of_pos_right _ h0
    have e2 : X * (A / h + 2) ≤ X * (3 * X) := Nat.mul_le_mul_left _ (by omega)
    have e3 : X ^ 2 * 1 ≤ X ^ 2 * X ^ 4 := Nat.mul_le_mul_left _ (Nat.one_le_pow _ _ hX)
    have e4 : X * (3 * X) = 3 * X ^ 2 := by grind
    have e5 : X ^ 2 * X ^ 4 = X ^ 6 := by grind
    omega
theorem pot_next {X A h h' B : Nat} (h0 : 1 ≤ h) (h1 : h ≤ A) (h2 : 2 * h' ≤ A) (hB : X * (3 * A ^ 3 * h ^ 2) ≤ B) : X * (A / h + 2) * (3 * h ^ 3 * h' ^ 2) ≤ B ∧ X * (A / h + 2) ≤ B := by
  have e : (A / h + 2) * h ≤ 3 * A := by
    have := Nat.div_mul_le_self A h
    rw [Nat.add_mul]; omega
  have e2 : 3 * h' ^ 2 ≤ A ^ 2 := by
    have : (2 * h') * (2 * h') ≤ A * A := Nat.mul_le_mul h2 h2
    have z : (2 * h') * (2 * h') = 4 * (h' * h') := by grind
    rw [Nat.pow_two, Nat.pow_two]; omega
  constructor
  · calc X * (A / h + 2) * (3 * h ^ 3 * h' ^ 2) = X * (((A / h + 2) * h) * h ^ 2 * (3 * h' ^ 2)) := by grind
      _ ≤ X * ((3 * A) * h ^ 2 * A ^ 2) := Nat.mul_le_mul_left _ (Nat.mul_le_mul (Nat.mul_le_mul_right _ e) e2)
      _ = X * (3 * A ^ 3 * h ^ 2) := by grind
      _ ≤ B := hB
  · have e1 : A / h + 2 ≤ (A / h + 2) * h := Nat.le_mul_of_pos_right _ h0
    have q1 : 1 ≤ A ^ 2 * h ^ 2 := Nat.mul_pos (Nat.pow_pos (by omega)) (Nat.pow_pos (by omega))
    have q2 : 3 * A * 1 ≤ 3 * A * (A ^ 2 * h ^ 2) := Nat.mul_le_mul_left _ q1
    have q3 : 3 * A * (A ^ 2 * h ^ 2) = 3 * A ^ 3 * h ^ 2 := by grind
    refine Nat.le_trans (Nat.mul_le_mul_left X (show A / h + 2 ≤ 3 * A ^ 3 * h ^ 2 by omega)) hB
section
variable {W n N done c B : Nat} {R : List Row} {a : Nat}
theorem C1.next (h : C1 W n N done c B R (some a)) : C2 W n N done c B (passR R done c a) (leastAt (passR R done c a) (done + 1) c) ∧ meas (passR R done c a) c (leastAt (passR R done c a) (done + 1) c) < meas R c (some a) := by
  obtain ⟨X, hX, hb, hB⟩ := h.bd
  obtain ⟨l1, l2, l3, l4⟩ := leastAt_some h.least.symm
  have hA : ∀ k, done ≤ k → k < R.length → (ent R k c).natAbs ≤ X := fun k h1 h2 => (hb k h1 h2).1 c
  have ed : ent (passR R done c a) done c = ent R a c := by rw [ent_pass h.shp l1 l2 (by omega), if_neg (by omega), if_pos rfl]
  have sm : ∀ k, done < k → k < (passR R done c a).length → (ent (passR R done c a) k c).natAbs < (ent (passR R done c a) done c).natAbs ∧ 0 ≤ ent (passR R done c a) k c * ent (passR R done c a) done c := fun k h1 h2 => by
    rw [passR_len] at h2
    rw [ed]
    exact ent_pass_below h.shp l1 l2 l3 h1 h2
  have hl := h.len
  have h1X : (ent R a c).natAbs ≤ X := hA a l1 l2
  refine ⟨⟨by rw [passR_len]; exact hl, shp_pass h.shp l1 l2, by omega, by rw [ed]; exact l3, rfl, sm, _, bd_pass h.shp hb l1 l2 l3 hA, ?_, fun a' ha' => ?_⟩, ?_⟩
  · exact (pot_first (h' := 0) (by omega) h1X (Nat.le_refl _) (by omega) hB hX).2
  · obtain ⟨m1, m2, m3, _⟩ := leastAt_some ha'
    have q := (sm a' (by omega) m2).1
    rw [ed] at q
    rw [ed]
    exact (pot_first (by omega) h1X (Nat.le_refl _) q hB hX).1
  · cases hm : leastAt (passR R done c a) (done + 1) c with
    | none => show 0 < (ent R a c).natAbs; omega
    | some a' =>
      obtain ⟨m1, m2, m3, _⟩ := leastAt_some hm
      have q := (sm a' (by omega) m2).1
      rw [ed] at q
      exact q
theorem half_rem {x y : Int} (hy : y ≠ 0) (hs : 0 ≤ y * x) (hl : y.natAbs < x.natAbs) : 2 * (x - x.fdiv y * y).natAbs ≤ x.natAbs := by
  obtain ⟨r1, r2⟩ := fd_rem x hy
  have main : ∀ {p q : Int}, 0 < q → q < p → 2 * (p % q) ≤ p := fun {p q} h1 h2 => by
    have e := Int.emod_add_mul_ediv p q
    have d1 : 1 ≤ p / q := by
      have : q / q ≤ p / q := Int.ediv_le_ediv h1 (by omega)
      rw [Int.ediv_self (by omega)] at this
      exact this
    have d2 : q * 1 ≤ q * (p / q) := Int.mul_le_mul_of_nonneg_left d1 (by omega)
    have d3 := Int.emod_lt_of_pos p h1
    omega
  by_cases h : 0 < y
  · have hx : 0 < x := by
      by_cases z : 0 < x
      · exact z
      · have : x < 0 ∨ x = 0 := by omega
        rcases this with z | z
        · have := Int.mul_neg_of_pos_of_neg h z
          omega
        · omega
    have e : x - x.fdiv y * y = x % y := by rw [Int.fdiv_eq_ediv_of_nonneg _ (by omega), Int.emod_def, Int.mul_comm]
    rw [e]
    have := main h (show y < x by omega)
    have := Int.emod_nonneg x hy
    omega
  · have h' : y < 0 := by omega
    have hx : x < 0 := by
      by_cases z : x < 0
      · exact z
      · have : 0 < x ∨ x = 0 := by omega
        rcases this with z | z
        · have := Int.mul_neg_of_neg_of_pos h' z
          omega
        · omega
    have e : x - x.fdiv y * y = -((-x) % (-y)) := by
      rw [← Int.neg_fdiv_neg, Int.fdiv_eq_ediv_of_nonneg _ (by omega), Int.emod_def]
      grind
    rw [e]
    have := main (show 0 < -y by omega) (show -y < -x by omega)
    have := Int.emod_nonneg (-x) (show -y ≠ 0 by omega)
    omega
theorem C2.next (h : C2 W n N done c B R (some a)) : C2 W n N done c B (passR R done c a) (leastAt (passR R done c a) (done + 1) c) ∧ meas (passR R done c a) c (leastAt (passR R done c a) (done + 1) c) < meas R c (some a) := by
  obtain ⟨X, hb, hXB, hB⟩ := h.bd
  obtain ⟨l1, l2, l3, l4⟩ := leastAt_some h.least.symm
  have l1' : done ≤ a := by omega
  have hl := h.len
  have hsa := h.small a (by omega) l2
  have hA : ∀ k, done ≤ k → k < R.length → (ent R k c).natAbs ≤ (ent R done c).natAbs := fun k h1 h2 => by
    by_cases e : k = done
    · subst e; exact Nat.le_refl _
    · exact Nat.le_of_lt (h.small k (by omega) h2).1
  have ed : ent (passR R done c a) done c = ent R a c := by rw [ent_pass h.shp l1' l2 (by omega), if_neg (by omega), if_pos rfl]
  have sm : ∀ k, done < k → k < (passR R done c a).length → (ent (passR R done c a) k c).natAbs < (ent (passR R done c a) done c).natAbs ∧ 0 ≤ ent (passR R done c a) k c * ent (passR R done c a) done c := fun k h1 h2 => by
    rw [passR_len] at h2
    rw [ed]
    exact ent_pass_below h.shp l1' l2 l3 h1 h2
  have pot := hB a rfl
  refine ⟨⟨by rw [passR_len]; exact hl, shp_pass h.shp l1' l2, h.lt, by rw [ed]; exact l3, rfl, sm, _, bd_pass h.shp hb l1' l2 l3 hA, ?_, fun a' ha' => ?_⟩, ?_⟩
  · exact (pot_next (h' := 0) (by omega) (by omega) (by omega) pot).2
  · obtain ⟨m1, m2, m3, m4⟩ := leastAt_some ha'
    have q := (sm a' (by omega) m2).1
    rw [ed] at q
    rw [ed]
    refine (pot_next (by omega) (by omega) ?_ pot).1
    have ea : ent (passR R done c a) a c = ent R done c - (ent R done c).fdiv (ent R a c) * ent R a c := by
      rw [ent_pass h.shp l1' l2 l2, if_neg (by omega), if_neg (by omega)]
      unfold oldR
      rw [if_pos rfl]
      rfl
    have hf := half_rem (x := ent R done c) (y := ent R a c) l3 hsa.2 hsa.1
    rw [passR_len] at m2
    by_cases z : ent (passR R done c a) a c = 0
    · -- the least divides the old head: it is at most half of it
      rw [ea] at z
      have hd : ent R done c = (ent R done c).fdiv (ent R a c) * ent R a c := by omega
      have e1 : (ent R done c).natAbs = ((ent R done c).fdiv (ent R a c)).natAbs * (ent R a c).natAbs := by
        rw [← Int.natAbs_mul, ← hd]
      have e2 : 2 ≤ ((ent R done c).fdiv (ent R a c)).natAbs := by
        by_cases w : 2 ≤ ((ent R done c).fdiv (ent R a c)).natAbs
        · exact w
        · have w' : ((ent R done c).fdiv (ent R a c)).natAbs = 0 ∨ ((ent R done c).fdiv (ent R a c)).natAbs = 1 := by omega
          rcases w' with w' | w'
          · rw [w', Nat.zero_mul] at e1; omega
          · rw [w', Nat.one_mul] at e1; omega
      have e3 : 2 * (ent R a c).natAbs ≤ ((ent R done c).fdiv (ent R a c)).natAbs * (ent R a c).natAbs := Nat.mul_le_mul_right _ e2
      omega
    · have := m4 a (by omega) (by rw [passR_len]; exact l2) z
      rw [ea] at this
      omega
  · cases hm : leastAt (passR R done c a) (done + 1) c with
    | none => show 0 < (ent R a c).natAbs; omega
    | some a' =>
      obtain ⟨m1, m2, m3, _⟩ := leastAt_some hm
      have q := (sm a' (by omega) m2).1
      rw [ed] at q
      exact q
end
def CS (W n N done c B : Nat) (R : List Row) (t : Option Nat) : Prop := C1 W n N done c B R t ∨ C2 W n N done c B R t
section
variable {W n N done c B : Nat} {R : List Row} {t : Option Nat} {a : Nat}
theorem CS.next (h : CS W n N done c B R (some a)) : CS W n N done c B (passR R done c a) (leastAt (passR R done c a) (done + 1) c) ∧ meas (passR R done c a) c (leastAt (passR R done c a) (done + 1) c) < meas R c (some a) := by
  rcases h with h | h
  · exact ⟨.inr h.next.1, h.next.2⟩
  · exact ⟨.inr h.next.1, h.next.2⟩
theorem CS.len (h : CS W n N done c B R t) : R.length = N := h.elim (·.len) (·.len)
theorem CS.shp (h : CS W n N done c B R t) : Shp W n R := h.elim (·.shp) (·.shp)
theorem CS.at_ (h : CS W n N done c B R (some a)) : done ≤ a ∧ a < R.length ∧ ent R a c ≠ 0 := by
  rcases h with h | h
  · obtain ⟨l1, l2, l3, _⟩ := leastAt_some h.least.symm
    exact ⟨l1, l2, l3⟩
  · obtain ⟨l1, l2, l3, _⟩ := leastAt_some h.least.symm
    exact ⟨by omega, l2, l3⟩
theorem CS.bd (h : CS W n N done c B R t) : BdF done B R := by
  rcases h with h | h
  · obtain ⟨X, hX, hb, hB⟩ := h.bd
    refine hb.mono (Nat.le_trans ?_ hB)
    have : X * 1 ≤ X * X ^ 5 := Nat.mul_le_mul_left _ (Nat.one_le_pow _ _ hX)
    have e : X * X ^ 5 = X ^ 6 := by grind
    omega
  · obtain ⟨X, hb, hB, _⟩ := h.bd
    exact hb.mono hB
theorem CS.done_ (h : CS W n N done c B R none) : ∀ k, done < k → k < R.length → ent R k c = 0 := fun k h1 h2 => by
  rcases h with h | h
  · exact leastAt_none h.least.symm k (by omega) h2
  · exact leastAt_none h.least.symm k (by omega) h2
theorem clear_ind {P : List Row → Option Nat → Prop} (hs : ∀ R a, CS W n N done c B R (some a) → P R (some a) → P (passR R done c a) (leastAt (passR R done c a) (done + 1) c)) :
    ∀ (f : Nat) (R : List Row) (t : Option Nat), CS W n N done c B R t → P R t → meas R c t < f → CS W n N done c B (clearGo done c f R t) none ∧ P (clearGo done c f R t) none
  | 0, R, t, _, _, hf => by omega
  | f + 1, R, none, h, p, _ => ⟨h, p⟩
  | f + 1, R, some a, h, p, hf => by
    have hn := h.next
    exact clear_ind hs f _ _ hn.1 (hs R a h p) (by omega)
end
end SF
namespace SF
theorem fmod_pos {a b : Int} (h : 0 < b) : 0 ≤ a.fmod b ∧ a.fmod b < b := ⟨by rw [Int.fmod_eq_emod_of_nonneg _ (by omega)]; exact Int.emod_nonneg _ (by omega), Int.fmod_lt_of_pos _ h⟩
inductive Lat (n : Nat) (g : Nat → Nat → Int) : (Nat → Int) → Prop
  | zero : Lat n g (fun _ => 0)
  | add {f : Nat → Int} (k : Nat) (c : Int) : k < n → Lat n g f → Lat n g (fun j => f j + c * g k j)
theorem Lat.of {n : Nat} {g : Nat → Nat → Int} {f f' : Nat → Int} (h : Lat n g f) (e : ∀ j, f j = f' j) : Lat n g f' := by
  have : f = f' := funext e
  exact this ▸ h
theorem Lat.lin {n : Nat} {g : Nat → Nat → Int} {f f' : Nat → Int} (h : Lat n g f) (h' : Lat n g f') (c : Int) : Lat n g (fun j => f j + c * f' j) := by
  induction h' with
  | zero => exact h.of fun j => by simp
  | add k d hk _ ih => exact (ih.add k (c * d) hk).of fun j => by grind
theorem Lat.mem {n : Nat} {g : Nat → Nat → Int} {k : Nat} (hk : k < n) : Lat n g (g k) := (Lat.zero.add k 1 hk).of fun j => by omega
theorem Lat.sub {n m : Nat} {g g' : Nat → Nat → Int} (h : ∀ k, k < n → Lat m g' (g k)) {f : Nat → Int} (hf : Lat n g f) : Lat m g' f := by
  induction hf with
  | zero => exact .zero
  | add k c hk _ ih => exact ih.lin (h k hk) c
theorem Lat.mul {n : Nat} {g : Nat → Nat → Int} {f : Nat → Int} (h : Lat n g f) (c : Int) : Lat n g (fun j => c * f j) := (Lat.zero.lin h c).of fun j => by omega
theorem Lat.plus {n : Nat} {g : Nat → Nat → Int} {f f' : Nat → Int} (h : Lat n g f) (h' : Lat n g f') : Lat n g (fun j => f j + f' j) := (h.lin h' 1).of fun j => by omega
theorem Lat.minus {n : Nat} {g : Nat → Nat → Int} {f f' : Nat → Int} (h : Lat n g f) (h' : Lat n g f') : Lat n g (fun j => f j - f' j) := (h.lin h' (-1)).of fun j => by omega
theorem Lat.van {n : Nat} {g : Nat → Nat → Int} {f : Nat → Int} {j : Nat} (h : Lat n g f) (z : ∀ k, k < n → g k j = 0) : f j = 0 := by
  induction h with
  | zero => rfl
  | add k c hk _ ih => simp only [ih, z k hk]; omega
def pe (S : List Pt) (k j : Nat) : Int := vf (S.getD k []) j
abbrev LatS (S : List Pt) : (Nat → Int) → Prop := Lat S.length (pe S)
abbrev LatR (R : List Row) : (Nat → Int) → Prop := Lat R.length (ent R)
def SameLat (n : Nat) (g : Nat → Nat → Int) (m : Nat) (g' : Nat → Nat → Int) : Prop := ∀ f, Lat n g f ↔ Lat m g' f
theorem SameLat.of {n m : Nat} {g g' : Nat → Nat → Int} (h : ∀ k, k < n → Lat m g' (g k)) (h' : ∀ k, k < m → Lat n g (g' k)) : SameLat n g m g' := fun _ => ⟨Lat.sub h, Lat.sub h'⟩
def sumN (n : Nat) (f : Nat → Int) : Int := match n with
  | 0 => 0
  | n + 1 => sumN n f + f n
theorem sumN_congr {n : Nat} {f g : Nat → Int} (h : ∀ i, i < n → f i = g i) : sumN n f = sumN n g := by
  induction n with
  | zero => rfl
  | succ n ih => rw [sumN, sumN, ih fun i hi => h i (by omega), h n (by omega)]
theorem sumN_lin {n : Nat} {f g s : Nat → Int} (m : Int) : sumN n (fun i => (f i - m * g i) * s i) = sumN n (fun i => f i * s i) - m * sumN n (fun i => g i * s i) := by
  induction n with
  | zero => simp [sumN]
  | succ n ih => rw [sumN, sumN, sumN, ih]; grind
theorem sumN_mul {n : Nat} {f s : Nat → Int} (m : Int) : sumN n (fun i => (m * f i) * s i) = m * sumN n (fun i => f i * s i) := by
  induction n with
  | zero => simp [sumN]
  | succ n ih => rw [sumN, sumN, ih]; grind
theorem sumN_zero {n : Nat} {f : Nat → Int} (h : ∀ i, i < n → f i = 0) : sumN n f = 0 := by
  induction n with
  | zero => rfl
  | succ n ih => rw [sumN, ih fun i hi => h i (by omega), h n (by omega)]; rfl
theorem sumN_one {n k : Nat} {s : Nat → Int} (hk : k < n) : sumN n (fun i => (if i < n ∧ i = k then (1 : Int) else 0) * s i) = s k := by
  have gen : ∀ m, m ≤ n → sumN m (fun i => (if i < n ∧ i = k then (1 : Int) else 0) * s i) = if k < m then s k else 0 := by
    intro m
    induction m with
    | zero => intro _; rw [if_neg (by omega)]; rfl
    | succ m ih =>
      intro hm
      rw [sumN, ih (by omega)]
      by_cases e : m = k
      · subst e
        rw [if_neg (by omega), if_pos ⟨by omega, rfl⟩, if_pos (by omega)]
        omega
      · rw [if_neg (show ¬ (m < n ∧ m = k) from fun z => e z.2)]
        by_cases q : k < m
        · rw [if_pos q, if_pos (by omega)]; omega
        · rw [if_neg q, if_neg (by omega)]; omega
  rw [gen n (Nat.le_refl _), if_pos hk]
def cmb (S : List Pt) (cs : List Int) (j : Nat) : Int := sumN S.length fun i => vf cs i * pe S i j
theorem cmb_less {S : List Pt} {r o : Row} {m : Int} (h : r.2.length = o.2.length) (j : Nat) : cmb S (lessR r m o).2 j = cmb S r.2 j - m * cmb S o.2 j := by
  unfold cmb
  rw [← sumN_lin]
  exact sumN_congr fun i _ => by rw [vf_less2 h]
theorem cmb_times {S : List Pt} {cs : List Int} {m : Int} (j : Nat) : cmb S (timesP m cs) j = m * cmb S cs j := by
  unfold cmb
  rw [← sumN_mul]
  exact sumN_congr fun i _ => by rw [vf_times]
theorem cmb_unit {S : List Pt} {k : Nat} (h : k < S.length) (j : Nat) : cmb S (unitP S.length k) j = pe S k j := by
  unfold cmb
  rw [← sumN_one (s := fun i => pe S i j) h]
  exact sumN_congr fun i _ => by rw [vf_unit]
theorem cmb_sp (S : List Pt) (cs : List Int) : LatS S (cmb S cs) := by
  have gen : ∀ m, m ≤ S.length → LatS S (fun j => sumN m fun i => vf cs i * pe S i j) := by
    intro m
    induction m with
    | zero => intro _; exact .zero
    | succ m ih => intro hm; exact (ih (by omega)).add m (vf cs m) (by omega)
  exact gen S.length (Nat.le_refl _)
def Cc (S : List Pt) (R : List Row) : Prop := ∀ k, k < R.length → ∀ j, ent R k j = cmb S (row R k).2 j
section
variable {W n : Nat} {R : List Row} {done c a : Nat} {S : List Pt}
theorem cc_old (h : Cc S R) (h1 : done ≤ a) (h2 : a < R.length) {k : Nat} (hk : k < R.length) (j : Nat) : vf (oldR R done a k).1 j = cmb S (oldR R done a k).2 j := by
  unfold oldR
  split
  · exact h done (by omega) j
  · exact h k hk j
theorem cc_pass (s : Shp W n R) (h : Cc S R) (h1 : done ≤ a) (h2 : a < R.length) : Cc S (passR R done c a) := fun k hk j => by
  rw [passR_len] at hk
  unfold ent
  rw [passR_row h1 h2 hk]
  split
  · exact h k hk j
  · split
    · exact h a h2 j
    · have sh := shp_old s h1 h2 hk
      rw [vf_less (by rw [sh.1, s.pt _ h2]), cmb_less (by rw [sh.2, s.ct _ h2]), cc_old h h1 h2 hk j, ← h a h2 j]
      rfl
theorem sp_pass (s : Shp W n R) (h1 : done ≤ a) (h2 : a < R.length) : SameLat (passR R done c a).length (ent (passR R done c a)) R.length (ent R) := by
  have hl := passR_len R done c a
  have old_sp : ∀ k, k < R.length → LatR R (fun j => vf (oldR R done a k).1 j) := fun k hk => by
    unfold oldR
    split
    · exact Lat.mem (g := ent R) (k := done) (by omega)
    · exact Lat.mem (g := ent R) (k := k) hk
  refine .of (fun k hk => ?_) fun k hk => ?_
  · rw [hl] at hk
    by_cases e1 : k < done
    · exact (Lat.mem (g := ent R) hk).of fun j => by rw [ent_pass s h1 h2 hk, if_pos e1]
    · by_cases e2 : k = done
      · exact (Lat.mem (g := ent R) h2).of fun j => by rw [ent_pass s h1 h2 hk, if_neg e1, if_pos e2]
      · exact ((old_sp k hk).lin (Lat.mem (g := ent R) h2) (-((vf (oldR R done a k).1 c).fdiv (ent R a c)))).of fun j => by
          rw [ent_pass s h1 h2 hk, if_neg e1, if_neg e2]
          grind
  · have head : LatR (passR R done c a) (ent R a) := (Lat.mem (g := ent (passR R done c a)) (k := done) (by omega)).of fun j => by rw [ent_pass s h1 h2 (by omega), if_neg (by omega), if_pos rfl]
    have back : ∀ i, done < i → i < R.length → LatR (passR R done c a) (fun j => vf (oldR R done a i).1 j) := fun i q1 q2 =>
      ((Lat.mem (g := ent (passR R done c a)) (k := i) (by omega)).lin head ((vf (oldR R done a i).1 c).fdiv (ent R a c))).of fun j => by
        rw [ent_pass s h1 h2 q2, if_neg (by omega), if_neg (by omega)]
        grind
    by_cases e1 : k < done
    · exact (Lat.mem (g := ent (passR R done c a)) (k := k) (by omega)).of fun j => by rw [ent_pass s h1 h2 hk, if_pos e1]
    · by_cases e2 : k = a
      · rw [e2]; exact head
      · by_cases e3 : k = done
        · have := back a (by omega) h2
          refine this.of fun j => ?_
          unfold oldR
          rw [if_pos rfl, e3]
          rfl
        · have := back k (by omega) hk
          refine this.of fun j => ?_
          unfold oldR
          rw [if_neg e2]
          rfl
theorem zero_pass (s : Shp W n R) (h1 : done ≤ a) (h2 : a < R.length) {j : Nat} (z : ∀ k, done ≤ k → k < R.length → ent R k j = 0) : ∀ k, done ≤ k → k < (passR R done c a).length → ent (passR R done c a) k j = 0 := fun k q1 q2 => by
  rw [passR_len] at q2
  rw [ent_pass s h1 h2 q2, if_neg (by omega)]
  split
  · exact z a h1 h2
  · have zo : vf (oldR R done a k).1 j = 0 := by
      unfold oldR
      split
      · exact z done (Nat.le_refl _) (by omega)
      · exact z k q1 q2
    rw [zo, z a h1 h2]
    omega
end
structure Ech (R : List Row) (done c : Nat) (E : Nat → Nat) : Prop where
  dl : done ≤ R.length
  mono : ∀ i i', i < i' → i' < done → E i < E i'
  lt : ∀ i, i < done → E i < c
  zero : ∀ i j, i < done → j < E i → ent R i j = 0
  pos : ∀ i, i < done → 0 < ent R i (E i)
  red : ∀ i i', i < i' → i' < done → 0 ≤ ent R i (E i') ∧ ent R i (E i') < ent R i' (E i')
  below : ∀ k j, done ≤ k → k < R.length → j < c → ent R k j = 0
def xs (b : Nat) : Nat → Nat
  | 0 => b
  | c + 1 => 6 * xs b c + 4
def ys (b : Nat) : Nat → Nat
  | 0 => b
  | c + 1 => ys b c + xs b (c + 1) + 2
structure StOk (W : Nat) (S : List Pt) (b c : Nat) (R : List Row) (done : Nat) : Prop where
  len : R.length = S.length
  shp : Shp W S.length R
  cc : Cc S R
  sp : SameLat R.length (ent R) S.length (pe S)
  ech : ∃ E, Ech R done c E
  bd : BdF done (2 ^ xs b c) R
  bdA : BdF 0 (2 ^ ys b c) R
section
variable {W : Nat} {S : List Pt} {b c done : Nat} {R : List Row}
theorem StOk.c1 (h : StOk W S b c R done) : C1 W S.length S.length done c (2 ^ xs b (c + 1)) R (leastAt R done c) :=
  ⟨h.len, h.shp, rfl, _, Nat.one_le_two_pow, h.bd, by
    rw [xs, Nat.pow_add, ← Nat.pow_mul, Nat.mul_comm (xs b c) 6]
    have : 9 * 2 ^ (6 * xs b c) ≤ 2 ^ (6 * xs b c) * 2 ^ 4 := by omega
    exact this⟩
structure ClOk (W : Nat) (S : List Pt) (b c : Nat) (R0 R : List Row) (done : Nat) : Prop where
  len : R.length = S.length
  shp : Shp W S.length R
  cc : Cc S R
  sp : SameLat R.length (ent R) S.length (pe S)
  keep : ∀ k, k < done → row R k = row R0 k
  below : ∀ k j, done ≤ k → k < R.length → j < c → ent R k j = 0
  col : ∀ k, done < k → k < R.length → ent R k c = 0
  bd : BdF done (2 ^ xs b (c + 1)) R
theorem StOk.cleared (h : StOk W S b c R done) : ClOk W S b c R (clearedR R done c) done := by
  obtain ⟨E, he⟩ := h.ech
  have q := clear_ind (W := W) (n := S.length) (N := S.length) (done := done) (c := c) (B := 2 ^ xs b (c + 1))
    (P := fun R' _ => Cc S R' ∧ SameLat R'.length (ent R') S.length (pe S) ∧ (∀ k, k < done → row R' k = row R k) ∧ ∀ k j, done ≤ k → k < R'.length → j < c → ent R' k j = 0)
    (fun R' a hc hp => by
      obtain ⟨l1, l2, l3⟩ := hc.at_
      obtain ⟨p1, p2, p3, p4⟩ := hp
      refine ⟨cc_pass hc.shp p1 l1 l2, fun f => (sp_pass hc.shp l1 l2 f).trans (p2 f), fun k hk => ?_, fun k j q1 q2 q3 => zero_pass hc.shp l1 l2 (fun k q1 q2 => p4 k j q1 q2 q3) k q1 q2⟩
      rw [passR_row l1 l2 (by omega), if_pos hk]
      exact p3 k hk)
    (meas R c (leastAt R done c) + 1) R (leastAt R done c) (.inl h.c1) ⟨h.cc, h.sp, fun _ _ => rfl, fun k j q1 q2 q3 => he.below k j q1 q2 q3⟩ (Nat.lt_succ_self _)
  obtain ⟨q1, q2, q3, q4, q5⟩ := q
  exact ⟨q1.len, q1.shp, q2, q3, q4, q5, q1.done_, q1.bd⟩
structure PosOk (W : Nat) (S : List Pt) (b c : Nat) (R0 R : List Row) (done : Nat) : Prop where
  cl : ClOk W S b c R0 R done
  lt : done < R.length
  pos : 0 < ent R done c
theorem ClOk.pos {R0 : List Row} (h : ClOk W S b c R0 R done) (hl : done < R.length) (hz : ent R done c ≠ 0) : PosOk W S b c R0 (posR R done c) done := by
  unfold posR
  by_cases hn : ent R done c < 0
  · rw [if_pos hn]
    have e1 : ∀ k, row (R.set done (negR (row R done))) k = if k = done then negR (row R done) else row R k := fun k => by
      by_cases e : k = done
      · subst e; rw [row_set_eq hl, if_pos rfl]
      · rw [row_set_ne (Ne.symm e), if_neg e]
    have ent1 : ∀ k j, ent (R.set done (negR (row R done))) k j = if k = done then -ent R k j else ent R k j := fun k j => by
      unfold ent
      rw [e1]
      split
      · rename_i e; subst e
        show vf (timesP (-1) (row R k).1) j = _
        rw [vf_times]; omega
      · rfl
    have len1 : (R.set done (negR (row R done))).length = R.length := by simp
    refine ⟨⟨by rw [len1]; exact h.len, ⟨fun k hk => ?_, fun k hk => ?_⟩, fun k hk j => ?_, fun f => Iff.trans ?_ (h.sp f), fun k hk => ?_, fun k j q1 q2 q3 => ?_, fun k q1 q2 => ?_, fun k q1 q2 => ?_⟩, by rw [len1]; exact hl, ?_⟩
    · rw [len1] at hk
      rw [e1]; split
      · show (timesP (-1) (row R done).1).length = W
        rw [timesP_len]; exact h.shp.pt _ hl
      · exact h.shp.pt _ hk
    · rw [len1] at hk
      rw [e1]; split
      · show (timesP (-1) (row R done).2).length = _
        rw [timesP_len]; exact h.shp.ct _ hl
      · exact h.shp.ct _ hk
    · rw [len1] at hk
      rw [ent1, e1]; split
      · rename_i e; subst e
        show _ = cmb S (timesP (-1) (row R k).2) j
        rw [cmb_times, ← h.cc k hk j]; omega
      · exact h.cc k hk j
    · have same : SameLat (R.set done (negR (row R done))).length (ent (R.set done (negR (row R done)))) R.length (ent R) := .of (fun k hk => by
          rw [len1] at hk
          by_cases e : k = done
          · exact ((Lat.mem (g := ent R) hk).mul (-1)).of fun j => by rw [ent1, if_pos e]; omega
          · exact (Lat.mem (g := ent R) hk).of fun j => by rw [ent1, if_neg e]) fun k hk => by
          by_cases e : k = done
          · exact ((Lat.mem (g := ent (R.set done (negR (row R done)))) (k := k) (by omega)).mul (-1)).of fun j => by rw [ent1, if_pos e]; omega
          · exact (Lat.mem (g := ent (R.set done (negR (row R done)))) (k := k) (by omega)).of fun j => by rw [ent1, if_neg e]
      exact same f
    · rw [e1, if_neg (by omega)]; exact h.keep k hk
    · rw [len1] at q2
      rw [ent1]; split
      · rw [h.below k j q1 q2 q3]; rfl
      · exact h.below k j q1 q2 q3
    · rw [len1] at q2
      rw [ent1, if_neg (by omega)]; exact h.col k q1 q2
    · rw [len1] at q2
      have hb := h.bd k q1 q2
      rw [e1]
      split
      · rename_i e; subst e
        refine ⟨fun j => ?_, fun j => ?_⟩
        · show (vf (timesP (-1) (row R k).1) j).natAbs ≤ _
          rw [vf_times]; have := hb.1 j; omega
        · show (vf (timesP (-1) (row R k).2) j).natAbs ≤ _
          rw [vf_times]; have := hb.2 j; omega
      · exact hb
    · rw [ent1, if_pos rfl]; omega
  · rw [if_neg hn]
    exact ⟨h, hl, by omega⟩
theorem up_bd {x y q : Int} {Y X : Nat} (hx : x.natAbs ≤ Y) (hq : q.natAbs ≤ Y + 1) (hy : y.natAbs ≤ X) : (x - q * y).natAbs ≤ Y + (Y + 1) * X := by
  have h1 : (q * y).natAbs ≤ (Y + 1) * X := by rw [Int.natAbs_mul]; exact Nat.mul_le_mul hq hy
  have h2 : (x - q * y).natAbs ≤ x.natAbs + (q * y).natAbs := by omega
  omega
theorem pow_up {y x : Nat} : 2 ^ y + (2 ^ y + 1) * 2 ^ x ≤ 2 ^ (y + x + 2) := by
  have h1 : 1 ≤ 2 ^ y := Nat.one_le_two_pow
  have h2 : 1 ≤ 2 ^ x := Nat.one_le_two_pow
  have e : 2 ^ (y + x + 2) = 4 * (2 ^ y * 2 ^ x) := by rw [Nat.pow_add, Nat.pow_add]; omega
  have h3 : 2 ^ y * 1 ≤ 2 ^ y * 2 ^ x := Nat.mul_le_mul_left _ h2
  have h4 : 1 * 2 ^ x ≤ 2 ^ y * 2 ^ x := Nat.mul_le_mul_right _ h1
  rw [e, Nat.add_mul]
  omega
theorem fd_le (a : Int) {d : Int} {Y : Nat} (hd : d ≠ 0) (h : a.natAbs ≤ Y) : (a.fdiv d).natAbs ≤ Y + 1 := by
  have h1 := fd_abs a hd
  have h2 : a.natAbs / d.natAbs ≤ a.natAbs := Nat.div_le_self _ _
  omega
theorem StOk.next (h : StOk W S b c R done) : StOk W S b (c + 1) (colStep (R, done) c).1 (colStep (R, done) c).2 := by
  have hC := h.cleared
  obtain ⟨E, he⟩ := h.ech
  have keepE : ∀ k j, k < done → ent (clearedR R done c) k j = ent R k j := fun k j hk => by unfold ent; rw [hC.keep k hk]
  have keepB : BdF 0 (2 ^ ys b (c + 1)) (clearedR R done c) := fun k _ hk => by
    by_cases e : k < done
    · rw [hC.keep k e]
      have := h.bdA k (Nat.zero_le _) (by have := he.dl; omega)
      have e2 : 2 ^ ys b c ≤ 2 ^ ys b (c + 1) := Nat.pow_le_pow_right (by omega) (by rw [ys]; omega)
      exact ⟨fun j => Nat.le_trans (this.1 j) e2, fun j => Nat.le_trans (this.2 j) e2⟩
    · have := hC.bd k (by omega) hk
      have e2 : 2 ^ xs b (c + 1) ≤ 2 ^ ys b (c + 1) := Nat.pow_le_pow_right (by omega) (by rw [ys]; omega)
      exact ⟨fun j => Nat.le_trans (this.1 j) e2, fun j => Nat.le_trans (this.2 j) e2⟩
  have hl := hC.len
  have hl0 := h.len
  unfold colStep
  by_cases hcond : done < (clearedR R done c).length ∧ ent (clearedR R done c) done c ≠ 0
  · rw [if_pos hcond]
    have hP := hC.pos hcond.1 hcond.2
    have hlen1 : (posR (clearedR R done c) done c).length = S.length := hP.cl.len
    generalize hV : posR (clearedR R done c) done c = V at hP hlen1
    have up := fun k => upN_row (R := V) (done := done) (c := c) hP.lt (i := done) (Nat.le_refl _) k
    have ulen : (upN V done c done).length = V.length := upN_len V done c done
    have hpv := hP.pos
    have uent : ∀ k j, k < V.length → ent (upN V done c done) k j = if k < done then ent V k j - ((ent V k c).fdiv (ent V done c)) * ent V done j else ent V k j := fun k j hk => by
      unfold ent
      rw [up]
      split
      · exact vf_less (by rw [hP.cl.shp.pt _ hk, hP.cl.shp.pt _ hP.lt]) j
      · rfl
    have vE : ∀ k j, k < done → ent V k j = ent R k j := fun k j hk => by unfold ent; rw [hP.cl.keep k hk]
    have dz : ∀ j, j < c → ent V done j = 0 := fun j hj => hP.cl.below done j (Nat.le_refl _) hP.lt hj
    have uE : ∀ i j, i < done → j < c → ent (upN V done c done) i j = ent R i j := fun i j hi hj => by
      have := hP.lt
      rw [uent i j (by omega), if_pos hi, dz j hj, vE i j hi]; omega
    have vB : ∀ k, k < done → (∀ j, (vf (row V k).1 j).natAbs ≤ 2 ^ ys b c) ∧ ∀ j, (vf (row V k).2 j).natAbs ≤ 2 ^ ys b c := fun k hk => by
      rw [hP.cl.keep k hk]
      exact h.bdA k (Nat.zero_le _) (by have := he.dl; omega)
    have qB : ∀ k, k < done → ((ent V k c).fdiv (ent V done c)).natAbs ≤ 2 ^ ys b c + 1 := fun k hk => fd_le _ (by omega) ((vB k hk).1 c)
    have dB := hP.cl.bd done (Nat.le_refl _) hP.lt
    refine ⟨by rw [ulen]; exact hlen1, ⟨fun k hk => ?_, fun k hk => ?_⟩, fun k hk j => ?_, fun f => Iff.trans ?_ (hP.cl.sp f), ⟨fun i => if i = done then c else E i, ?_⟩, fun k q1 q2 => ?_, fun k q1 q2 => ?_⟩
    · rw [ulen] at hk
      rw [up]; split
      · exact (shp_less (hP.cl.shp.pt _ hk) (hP.cl.shp.ct _ hk) (hP.cl.shp.pt _ hP.lt) (hP.cl.shp.ct _ hP.lt)).1
      · exact hP.cl.shp.pt _ hk
    · rw [ulen] at hk
      rw [up]; split
      · exact (shp_less (hP.cl.shp.pt _ hk) (hP.cl.shp.ct _ hk) (hP.cl.shp.pt _ hP.lt) (hP.cl.shp.ct _ hP.lt)).2
      · exact hP.cl.shp.ct _ hk
    · rw [ulen] at hk
      rw [uent k j hk, up]; split
      · rw [cmb_less (by rw [hP.cl.shp.ct _ hk, hP.cl.shp.ct _ hP.lt]), ← hP.cl.cc k hk j, ← hP.cl.cc done hP.lt j]
      · exact hP.cl.cc k hk j
    · have same : SameLat (upN V done c done).length (ent (upN V done c done)) V.length (ent V) := by
        have hd : LatR (upN V done c done) (ent V done) := (Lat.mem (g := ent (upN V done c done)) (k := done) (by rw [ulen]; exact hP.lt)).of fun j => by rw [uent done j hP.lt, if_neg (by omega)]
        refine .of (fun k hk => ?_) fun k hk => ?_
        · rw [ulen] at hk
          by_cases e : k < done
          · exact ((Lat.mem (g := ent V) hk).lin (Lat.mem (g := ent V) hP.lt) (-((ent V k c).fdiv (ent V done c)))).of fun j => by rw [uent k j hk, if_pos e]; grind
          · exact (Lat.mem (g := ent V) hk).of fun j => by rw [uent k j hk, if_neg e]
        · by_cases e : k < done
          · exact ((Lat.mem (g := ent (upN V done c done)) (k := k) (by omega)).lin hd ((ent V k c).fdiv (ent V done c))).of fun j => by rw [uent k j hk, if_pos e]; grind
          · exact (Lat.mem (g := ent (upN V done c done)) (k := k) (by omega)).of fun j => by rw [uent k j hk, if_neg e]
      exact same f
    · have hlt := hP.lt
      constructor
      · show done + 1 ≤ (upN V done c done).length
        rw [ulen]; exact hlt
      · intro i i' h1 h2
        by_cases e : i' = done
        · subst e; rw [if_neg (by omega), if_pos rfl]; exact he.lt i h1
        · rw [if_neg (by omega), if_neg e]; exact he.mono i i' h1 (by omega)
      · intro i h1
        by_cases e : i = done
        · rw [if_pos e]; omega
        · rw [if_neg e]; have := he.lt i (by omega); omega
      · intro i j h1 h2
        by_cases e : i = done
        · subst e
          rw [if_pos rfl] at h2
          rw [uent i j hlt, if_neg (by omega)]; exact dz j h2
        · rw [if_neg e] at h2
          have hi : i < done := by omega
          have := he.lt i hi
          rw [uE i j hi (by omega)]; exact he.zero i j hi h2
      · intro i h1
        by_cases e : i = done
        · subst e
          rw [if_pos rfl, uent i c hlt, if_neg (by omega)]; exact hpv
        · rw [if_neg e]
          have hi : i < done := by omega
          rw [uE i _ hi (he.lt i hi)]; exact he.pos i hi
      · intro i i' h1 h2
        by_cases e : i' = done
        · subst e
          rw [if_pos rfl, uent i c (by omega), if_pos h1, uent i' c hlt, if_neg (by omega)]
          have hr := fd_rem (ent V i c) (show ent V i' c ≠ 0 by omega)
          have hs : 0 ≤ ent V i c - (ent V i c).fdiv (ent V i' c) * ent V i' c := by
            by_cases z : 0 ≤ ent V i c - (ent V i c).fdiv (ent V i' c) * ent V i' c
            · exact z
            · have := Int.mul_neg_of_neg_of_pos (show ent V i c - (ent V i c).fdiv (ent V i' c) * ent V i' c < 0 by omega) hpv
              omega
          omega
        · rw [if_neg e]
          have hi' : i' < done := by omega
          have := he.lt i' hi'
          rw [uE i _ (by omega) this, uE i' _ hi' this]; exact he.red i i' h1 hi'
      · intro k j h1 h2 h3
        rw [ulen] at h2
        rw [uent k j h2, if_neg (by omega)]
        by_cases e : j = c
        · subst e; exact hP.cl.col k (by omega) h2
        · exact hP.cl.below k j (by omega) h2 (by omega)
    · rw [ulen] at q2
      rw [up, if_neg (by omega)]
      exact hP.cl.bd k (by omega) q2
    · rw [ulen] at q2
      rw [up]; split
      · rename_i e
        have r1 := hP.cl.shp.pt _ q2
        refine ⟨fun j => ?_, fun j => ?_⟩
        · rw [vf_less (by rw [r1, hP.cl.shp.pt _ hP.lt])]
          exact Nat.le_trans (up_bd ((vB k e).1 j) (qB k e) (dB.1 j)) (by rw [ys]; exact pow_up)
        · rw [vf_less2 (by rw [hP.cl.shp.ct _ q2, hP.cl.shp.ct _ hP.lt])]
          exact Nat.le_trans (up_bd ((vB k e).2 j) (qB k e) (dB.2 j)) (by rw [ys]; exact pow_up)
      · have := hP.cl.bd k (by omega) q2
        have e2 : 2 ^ xs b (c + 1) ≤ 2 ^ ys b (c + 1) := Nat.pow_le_pow_right (by omega) (by rw [ys]; omega)
        exact ⟨fun j => Nat.le_trans (this.1 j) e2, fun j => Nat.le_trans (this.2 j) e2⟩
  · rw [if_neg hcond]
    refine ⟨hl, hC.shp, hC.cc, hC.sp, ⟨E, ?_⟩, hC.bd, keepB⟩
    have hdl := he.dl
    constructor
    · show done ≤ (clearedR R done c).length; omega
    · exact fun i i' h1 h2 => he.mono i i' h1 h2
    · exact fun i h1 => by have := he.lt i h1; omega
    · exact fun i j h1 h2 => by rw [keepE i j h1]; exact he.zero i j h1 h2
    · exact fun i h1 => by rw [keepE i _ h1]; exact he.pos i h1
    · exact fun i i' h1 h2 => by
        have h2' : i' < done := h2
        rw [keepE i _ (by omega), keepE i' _ h2']; exact he.red i i' h1 h2
    · intro k j h1 h2 h3
      by_cases e : j = c
      · subst e
        by_cases e2 : k = done
        · subst e2
          by_cases z : ent (clearedR R k j) k j = 0
          · exact z
          · exact absurd ⟨h2, z⟩ hcond
        · have h1' : done ≤ k := h1
          exact hC.col k (by omega) h2
      · exact hC.below k j h1 h2 (by omega)
end
structure StepsOk (W b : Nat) (S : List Pt) : Prop where
  len : ∀ k, k < S.length → (S.getD k []).length = W
  bd : ∀ k, k < S.length → Bd b (S.getD k [])
theorem vf_bd {b : Nat} {p : Pt} (h : Bd b p) (j : Nat) : (vf p j).natAbs < 2 ^ b := by
  by_cases hj : j < p.length
  · exact h _ (List.mem_of_getElem? (get_vf hj))
  · rw [vf_beyond (by omega)]
    exact Nat.pow_pos (by omega)
theorem initR_row {S : List Pt} {k : Nat} (hk : k < S.length) : row (initR S) k = (S.getD k [], unitP S.length k) := by
  unfold row initR
  rw [List.getD_eq_getElem?_getD, List.getElem?_map, List.getElem?_range hk]
  rfl
theorem initR_len (S : List Pt) : (initR S).length = S.length := by simp [initR]
theorem stOk_init {W b : Nat} {S : List Pt} (h : StepsOk W b S) : StOk W S b 0 (initR S) 0 := by
  have il := initR_len S
  have ie : ∀ k j, k < S.length → ent (initR S) k j = pe S k j := fun k j hk => by unfold ent pe; rw [initR_row hk]
  have ib : BdF 0 (2 ^ b) (initR S) := fun k _ hk => by
    rw [il] at hk
    rw [initR_row hk]
    refine ⟨fun j => Nat.le_of_lt (vf_bd (h.bd k hk) j), fun j => ?_⟩
    show (vf (unitP S.length k) j).natAbs ≤ _
    rw [vf_unit]
    have : 1 ≤ 2 ^ b := Nat.one_le_two_pow
    split <;> omega
  refine ⟨il, ⟨fun k hk => ?_, fun k hk => ?_⟩, fun k hk j => ?_, ?_, ⟨fun _ => 0, ?_⟩, ib, ib⟩
  · rw [il] at hk; rw [initR_row hk]; exact h.len k hk
  · rw [il] at hk; rw [initR_row hk]; exact unitP_len _ _
  · rw [il] at hk; rw [ie k j hk, initR_row hk]; exact (cmb_unit hk j).symm
  · refine .of (fun k hk => ?_) fun k hk => ?_
    · rw [il] at hk
      exact (Lat.mem (g := pe S) hk).of fun j => (ie k j hk).symm
    · exact (Lat.mem (g := ent (initR S)) (k := k) (by rw [il]; exact hk)).of fun j => ie k j hk
  · exact ⟨Nat.zero_le _, fun _ _ _ h => absurd h (Nat.not_lt_zero _), fun _ h => absurd h (Nat.not_lt_zero _), fun _ _ h => absurd h (Nat.not_lt_zero _), fun _ h => absurd h (Nat.not_lt_zero _), fun _ _ _ h => absurd h (Nat.not_lt_zero _), fun _ _ _ _ h => absurd h (Nat.not_lt_zero _)⟩
theorem stOk_all {W b : Nat} {S : List Pt} (h : StepsOk W b S) : ∀ c, StOk W S b c (stairN S c).1 (stairN S c).2
  | 0 => stOk_init h
  | c + 1 => by
    have := (stOk_all h c).next
    rw [stairN]
    exact this
end SF
namespace SF
theorem bd_of {b : Nat} {p : Pt} (h : ∀ j, (vf p j).natAbs ≤ 2 ^ b) : Bd (b + 1) p := fun x hx => by
  obtain ⟨j, hj⟩ := List.mem_iff_getElem?.mp hx
  have := h j
  rw [vf_get hj] at this
  have e : 2 ^ (b + 1) = 2 * 2 ^ b := by rw [Nat.pow_succ, Nat.mul_comm]
  have : 0 < 2 ^ b := Nat.pow_pos (by omega)
  omega
theorem q_bd {x d : Int} {b : Nat} (hd : d ≠ 0) (h : x.natAbs ≤ 2 ^ b) : (x.fdiv d).natAbs < 2 ^ (b + 2) := by
  have h1 := fd_le x hd h
  have e : 2 ^ (b + 2) = 4 * 2 ^ b := by rw [Nat.pow_add, Nat.mul_comm]
  have : 0 < 2 ^ b := Nat.pow_pos (by omega)
  omega
end SF
namespace SF
theorem xs_mono (b : Nat) : ∀ {c c' : Nat}, c ≤ c' → xs b c ≤ xs b c' := fun {c c'} h => by
  induction h with
  | refl => exact Nat.le_refl _
  | step _ ih => rw [xs]; omega
theorem ys_mono (b : Nat) : ∀ {c c' : Nat}, c ≤ c' → ys b c ≤ ys b c' := fun {c c'} h => by
  induction h with
  | refl => exact Nat.le_refl _
  | step _ ih => rw [ys]; omega
theorem colStep_no {S : List Row × Nat} {c : Nat} (h : ¬ (S.2 < (clearedR S.1 S.2 c).length ∧ ent (clearedR S.1 S.2 c) S.2 c ≠ 0)) : colStep S c = (clearedR S.1 S.2 c, S.2) := by unfold colStep; rw [if_neg h]
theorem colStep_yes {S : List Row × Nat} {c : Nat} (h : S.2 < (clearedR S.1 S.2 c).length ∧ ent (clearedR S.1 S.2 c) S.2 c ≠ 0) : colStep S c = (upN (posR (clearedR S.1 S.2 c) S.2 c) S.2 c S.2, S.2 + 1) := by unfold colStep; rw [if_pos h]
end SF
namespace SF
open PySem PySem.Spec PyProof.Rows L2
section
variable {X : Cx}
def rAddA (K : PySem.W.Frag) : R2 := fun x y H Q => (rI0 (fun i j => .int (i + j))) x y H Q ∨ ((rCat x y H Q ∨ (rCatZ K x y H Q ∨ (∃ i j, x = .str i ∧ y = .str j ∧ i.length + j.length ≤ sizeLine ∧ Q (.str (i ++ j)) H))))
theorem opAdd : OpR X (binaryOp .Add) (rAddA X.K) := op_add.or (op_cat.or (op_catZ.or op_add_str))
def rMulA : R2 := fun x y H Q => (rI CMulB (fun i j => .int (i * j))) x y H Q ∨ rRep x y H Q
theorem opMul : OpR X (binaryOp .Mult) rMulA := op_mulB.or op_rep
def rSlAny (K : PySem.W.Frag) : V → Option Int → Option Int → Hp → VK → Prop := fun x lo hi H Q => rSlL K x lo hi H Q ∨ (rSlZ K x lo hi H Q ∨ rSlS x lo hi H Q)
theorem slAny : SlR X (rSlAny X.K) := sl_list.or (sl_tupZ.or sl_str)
structure Cal (P : Program) (w : World) (K : PySem.W.Frag) (mg : Str → Option Value) (base : Heap) (k : Nat) (x : Str) (ps : List Str) (sp : Sp) : Prop where
  ex : ∃ (f : Addr) (fd : FuncData), FnOk P w K mg base CX0 k f fd ps sp ∧ mg x = some (.ref f) ∧ PySem.W.keepIn K (.ref f) = true ∧ Binds K fd ps []
theorem pe_cal {k j : Nat} {x : Str} {ps : List Str} {sp : Sp} {e : Expr} {es : List Expr} {t : TA} {p pos : Pos} (C : Cal X.prog X.w X.K X.mg X.base k x ps sp) (hr : Room j X.A) (hk : k ≤ j) (hg : Gl X x) (ha : PA X (e :: es) t)
    (hdb : (x == ("__debug__" : Str)) = false := by decide) (he : starEach (e :: es) X.env = (false, eval e X.env) :: starEach es X.env := by rfl) (hpl : (backTo pos (starEach es X.env)).any (·.1) = false := by rfl) :
    PE X (.Call (.Name x p) (e :: es) [] pos) (tCall sp [] E0 t) := by
  obtain ⟨f, fd, F, hm, hkp, hb⟩ := C.ex
  exact pe_call F (hr.mono hk) hg hm hkp hb .nil pass0 ha hdb he hpl
end
section
variable {K : PySem.W.Frag} {σ : L2.St} {H H' : Hp} {ta tb te : TE} {d d1 d2 : PyData} {ds es : List PyData}
theorem rd_addI {i j : Int} : RD K (rAddA K) (.int i) (.int j) (.int (i + j)) := rd_orL rd_I0
theorem rd_addT (h : ds.length + es.length ≤ 100000) : RD K (rAddA K) (.tuple ds) (.tuple es) (.tuple (ds ++ es)) := fun x y H hx hy Q q => by
  obtain ⟨a, xs, rfl, hs, ha⟩ := dp_tup hx
  obtain ⟨b, ys, rfl, hs2, hb⟩ := dp_tup hy
  refine .inr (.inr (.inl ⟨a, b, xs, ys, rfl, rfl, hs.sq, hs2.sq, Evl.sz_of (by rw [ha.len, hb.len]; exact h), fun e => ?_, fun _ e => ?_, fun _ _ p o hp ho => ?_⟩))
  · have ha' : ds = [] := by
      have := ha.len
      rw [e] at this
      exact List.length_eq_zero_iff.mp this.symm
    subst ha'
    exact q _ _ ex_refl (.tup hs2 hb)
  · have hb' : es = [] := by
      have := hb.len
      rw [e] at this
      exact List.length_eq_zero_iff.mp this.symm
    subst hb'
    rw [List.append_nil] at q
    exact q _ _ ex_refl (.tup hs ha)
  · exact q _ _ (ex_new hp) (.tup ⟨o, upd_same, ho⟩ ((ha.app hb).up (ex_new hp)))
theorem ef_addL (ha : EvL K ta σ H ds) (hb : EvL K tb σ H es) (h : ds.length + es.length ≤ 100000) : EvF K (tOp (rAddA K) ta tb) σ H (ds ++ es) := fun H1 e Q q =>
  ha H1 e _ fun p xs H2 e2 hp hx => hb H2 (ex_tr e e2) _ fun p' ys H3 e3 hp' hy =>
    .inr (.inl ⟨p, p', xs, ys, rfl, rfl, e3 p _ hp, hp', Evl.sz_of (by rw [hx.len, hy.len]; exact h), fun z hz => q z _ _ (ex_back (ex_tr e2 e3) hz) (ex_tr e2 (ex_tr e3 (ex_new hz))) upd_same (((hx.up e3).app hy).up (ex_new hz))⟩)
theorem rd_mulI {i j : Int} (h : CMulB i j) : RD K rMulA (.int i) (.int j) (.int (i * j)) := rd_orL (rd_I h)
theorem eo_none : EvO K tNoPart σ H none := fun H1 _ _ q => q H1 ex_refl
variable (K) in
theorem eo_some {i : Int} (h : EvD K te σ H (.int i)) : EvO K (tPart te) σ H (some i) := fun H1 e _ q => h H1 e _ fun v H2 e2 hv => ⟨i, dp_int hv, q H2 e2⟩
def cutD (ds : List PyData) (lo hi : Option Int) : List PyData := (ds.drop (HT.sIx ds.length 0 lo)).take (HT.sIx ds.length ds.length hi - HT.sIx ds.length 0 lo)
theorem cut_all {H : Hp} {xs : List V} {lo hi : Option Int} (h : DdAll K H xs ds) : DdAll K H (cutV xs lo hi) (cutD ds lo hi) := by
  unfold cutV cutD
  rw [h.len]
  exact (h.dropN _).takeN _
theorem ef_sl {tl th : TO} {lo hi : Option Int} (h : EvD K te σ H (.list ds)) (h1 : EvO K tl σ H lo) (h2 : EvO K th σ H hi) : EvF K (tSl (rSlAny K) te tl th) σ H (cutD ds lo hi) := fun H1 e Q q =>
  h H1 e _ fun v H2 e2 hv => h1 H2 (ex_tr e e2) _ fun H3 e3 => h2 H3 (ex_tr e (ex_tr e2 e3)) _ fun H4 e4 => by
    obtain ⟨a, xs, rfl, hs, ha⟩ := dp_lst (hv.up (ex_tr e3 e4))
    exact .inl ⟨a, xs, rfl, hs, fun p hp => q p _ _ (ex_back (ex_tr e2 (ex_tr e3 e4)) hp) (ex_tr e2 (ex_tr e3 (ex_tr e4 (ex_new hp)))) upd_same ((cut_all ha).up (ex_new hp))⟩
theorem ev_slT {tl th : TO} {lo hi : Option Int} (h : EvD K te σ H (.tuple ds)) (h1 : EvO K tl σ H lo) (h2 : EvO K th σ H hi) : EvD K (tSl (rSlAny K) te tl th) σ H (.tuple (cutD ds lo hi)) := fun H1 e Q q =>
  h H1 e _ fun v H2 e2 hv => h1 H2 (ex_tr e e2) _ fun H3 e3 => h2 H3 (ex_tr e (ex_tr e2 e3)) _ fun H4 e4 => by
    obtain ⟨a, xs, rfl, hs, ha⟩ := dp_tup (hv.up (ex_tr e3 e4))
    refine .inr (.inl ⟨a, xs, rfl, hs.sq, fun z => ?_, fun _ p o hp ho => ?_⟩)
    · refine q _ _ (ex_tr e2 (ex_tr e3 e4)) (.tup hs ?_)
      have : cutV xs lo hi = xs := by
        unfold cutV
        rw [z.1, z.2]
        simp
      rw [← this]
      exact cut_all ha
    · exact q _ _ (ex_tr e2 (ex_tr e3 (ex_tr e4 (ex_new hp)))) (.tup ⟨o, upd_same, ho⟩ ((cut_all ha).up (ex_new hp)))
theorem cutD_take {n : Nat} : cutD ds none (some (n : Int)) = ds.take n := by
  unfold cutD
  rw [HT.sIx_none, HT.sIx_nat]
  simp [List.take_take]
theorem cutD_drop {n : Nat} : cutD ds (some (n : Int)) none = ds.drop n := by
  unfold cutD
  rw [HT.sIx_none, HT.sIx_nat]
  by_cases h : n ≤ ds.length
  · rw [Nat.min_eq_left h, ← List.length_drop, List.take_length]
  · have h' : ds.length ≤ n := by omega
    rw [Nat.min_eq_right h']
    simp [List.drop_eq_nil_of_le h']
def rInt1 : List V → Hp → VK → Prop := fun xs H Q => (∃ i, xs = [.int i] ∧ Q (.int i) H) ∨ ∃ k, xs = [.bl k] ∧ Q (.int (if k then 1 else 0)) H
theorem rc_int1 {b : Bool} : RC K rInt1 [.bool b] (.int (if b then 1 else 0)) := fun vs H hv Q q => by
  cases hv with
  | cons h1 h2 => cases h1; cases h2; exact .inr ⟨b, rfl, q _ H ex_refl (.int _)⟩
theorem callInt1 {X : Cx} : CallR X (.type "int") rInt1 := call_int1
theorem rc_max {i j : Int} : RC K (fun xs H Q => ∃ i j, xs = [.int i, .int j] ∧ Q (.int (if j > i then j else i)) H) [.int i, .int j] (.int (if j > i then j else i)) := fun vs H hv Q q => by
  cases hv with
  | cons h1 h2 => cases h2 with
    | cons h3 h4 => cases h1; cases h3; cases h4; exact ⟨i, j, rfl, q _ H ex_refl (.int _)⟩
def tyN : PyData → String
  | .none => "NoneType"
  | .bool _ => "bool"
  | .int _ => "int"
  | .str _ => "str"
  | .list _ => "list"
  | .tuple _ => "tuple"
  | .dict _ => "dict"
theorem tyX_of {v : V} (h : Dd K H v d) : TyX K H v (.type (tyN d)) := by
  cases h with
  | non => exact .base .non
  | bl b => exact .base (.bl b)
  | int i => exact .base (.int i)
  | str x => exact .base (.str x)
  | lst hs _ =>
    rcases hs with (h | ⟨o, h⟩) | ⟨o, its, n, h1, h2, _⟩
    · exact .base (.lst h)
    · exact .base (.frz h)
    · exact .kList h1 h2
  | tup hs _ =>
    obtain ⟨o, h, _⟩ := hs
    exact .fTuple h
theorem ev_isi {n : String} {b : Bool} (h : EvD K ta σ H d) (hk : kitB (tyN d) n = some b) : EvD K (tCB (rIsi K) (tCons ta (tCons (tC (.ty n)) tNil))) σ H (.bool b) := fun H1 e Q q =>
  h H1 e _ fun v H2 e2 hv => ⟨v, .ty n, _, _, b, rfl, .ty n, tyX_of hv, kit_ty hk, q _ H2 e2 (.bl _)⟩
theorem ev_countT {k : Int} {ns : List Int} (h : EvD K ta σ H (.tuple (ns.map .int))) (hk : EvD K tb σ H (.int k)) : EvD K (tBMZ (rCntT K) ta (tCons tb tNil)) σ H (.int (ns.count k : Nat)) := fun H1 e Q q =>
  h H1 e _ fun v H2 e2 hv => by
    obtain ⟨a, xs, rfl, hs, ha⟩ := dp_tup hv
    rw [dp_ints ha] at hs
    refine ⟨⟨_, _, rfl, hs⟩, ?_⟩
    refine hk H2 (ex_tr e e2) _ fun w H3 e3 hw => ?_
    obtain rfl := dp_int hw
    exact ⟨a, ns, k, rfl, rfl, (zt_up e3 hs).sq, q _ H3 (ex_tr e2 e3) (.int _)⟩
theorem ev_countL {k : Int} {ns : List Int} (h : EvD K ta σ H (.list (ns.map .int))) (hk : EvD K tb σ H (.int k)) : EvD K (tBM K "list" (rCntI K) ta (tCons tb tNil)) σ H (.int (ns.count k : Nat)) := fun H1 e Q q =>
  h H1 e _ fun v H2 e2 hv => by
    obtain ⟨a, xs, rfl, hs, ha⟩ := dp_lst hv
    rw [dp_ints ha] at hs
    refine ⟨.inl ⟨rfl, _, hs⟩, ?_⟩
    refine hk H2 (ex_tr e e2) _ fun w H3 e3 hw => ?_
    obtain rfl := dp_int hw
    exact ⟨a, ns, k, rfl, rfl, Evl.ex_l e3 hs, q _ H3 (ex_tr e2 e3) (.int _)⟩
theorem ev_isN0 (h : EvD K ta σ H d) (hd : d ≠ .none) : EvD K (tOp (fun x y H Q => y = .non ∧ Q (.bl (decide (x = .non))) H) ta (tC .non)) σ H (.bool false) := fun H1 e Q q =>
  h H1 e _ fun v H2 e2 hv => ⟨rfl, by
    have : v ≠ .non := by
      rintro rfl
      cases hv
      exact hd rfl
    rw [decide_eq_false this]
    exact q _ H2 e2 (.bl _)⟩
theorem ev_isN1 (h : EvD K ta σ H .none) : EvD K (tOp (fun x y H Q => y = .non ∧ Q (.bl (decide (x = .non))) H) ta (tC .non)) σ H (.bool true) := fun H1 e Q q =>
  h H1 e _ fun v H2 e2 hv => ⟨rfl, by cases hv; exact q _ H2 e2 (.bl _)⟩
theorem ev_notN0 (h : EvD K ta σ H d) (hd : d ≠ .none) : EvD K (tOp (fun x y H Q => y = .non ∧ Q (.bl (!decide (x = .non))) H) ta (tC .non)) σ H (.bool true) := fun H1 e Q q =>
  h H1 e _ fun v H2 e2 hv => ⟨rfl, by
    have : v ≠ .non := by
      rintro rfl
      cases hv
      exact hd rfl
    rw [decide_eq_false this]
    exact q _ H2 e2 (.bl _)⟩
theorem ev_notN1 (h : EvD K ta σ H .none) : EvD K (tOp (fun x y H Q => y = .non ∧ Q (.bl (!decide (x = .non))) H) ta (tC .non)) σ H (.bool false) := fun H1 e Q q =>
  h H1 e _ fun v H2 e2 hv => ⟨rfl, by cases hv; exact q _ H2 e2 (.bl _)⟩
theorem et_truL (h : EvD K ta σ H (.list ds)) : EvB (fun σ H Q => ta σ H fun x H' => ∃ k, TruV K x H' k ∧ Q k H') σ H (!ds.isEmpty) := fun H1 e Q q =>
  h H1 e _ fun v H2 e2 hv => by
    obtain ⟨a, xs, rfl, hs, ha⟩ := dp_lst hv
    refine ⟨!xs.isEmpty, .inl ⟨xs, hs, rfl⟩, ?_⟩
    have : xs.isEmpty = ds.isEmpty := by
      have := ha.len
      cases xs <;> cases ds <;> simp_all
    rw [this]
    exact q H2 e2
end
structure Bl (mg : Str → Option Value) : Prop where
  len : mg "len" = none
  zip : mg "zip" = none
  tuple : mg "tuple" = none
  list : mg "list" = none
  sum : mg "sum" = none
  abs : mg "abs" = none
  int_ : mg "int" = none
  bool : mg "bool" = none
  str : mg "str" = none
  range : mg "range" = none
  enumerate : mg "enumerate" = none
  isinstance : mg "isinstance" = none
  all : mg "all" = none
  max : mg "max" = none
  min : mg "min" = none
  reversed : mg "reversed" = none
def ptD (p : Pt) : PyData := .tuple (p.map .int)
def plD (p : Pt) : PyData := .list (p.map .int)
def rowD (r : Row) : PyData := .tuple [ptD r.1, ptD r.2]
theorem tupOAll_ints : ∀ (p : List Int), tupOAll (p.map .int) = true
  | [] => rfl
  | x :: p => by
    rw [List.map_cons]
    simp [tupOAll, tupO, tupOAll_ints p]
theorem tupO_pt (p : Pt) : tupO (ptD p) = true := by
  unfold ptD
  rw [tupO]
  exact tupOAll_ints p
theorem tupO_row (r : Row) : tupO (rowD r) = true := by
  unfold rowD
  simp [tupO, tupOAll, tupO_pt]
theorem tupOAll_map {α : Type} {f : α → PyData} (h : ∀ a, tupO (f a) = true) : ∀ (l : List α), tupOAll (l.map f) = true
  | [] => rfl
  | x :: p => by
    rw [List.map_cons]
    simp [tupOAll, h x, tupOAll_map h p]
theorem ptD_get {p : Pt} {i : Nat} {n : Int} (h : p[i]? = some n) : (p.map PyData.int)[i]? = some (.int n) := by
  rw [List.getElem?_map, h]; rfl
theorem map_get {α : Type} {f : α → PyData} {p : List α} {i : Nat} {n : α} (h : p[i]? = some n) : (p.map f)[i]? = some (f n) := by
  rw [List.getElem?_map, h]; rfl
theorem map_got {α : Type} {f : α → PyData} {p : List α} {i : Nat} {d : PyData} (h : (p.map f)[i]? = some d) : ∃ n, p[i]? = some n ∧ d = f n := by
  rw [List.getElem?_map] at h
  cases e : p[i]? with
  | none => rw [e] at h; cases h
  | some n => rw [e] at h; exact ⟨n, rfl, (Option.some.inj h).symm⟩
theorem range_map_eq {α : Type} {f : α → PyData} {l : List α} {n : Nat} {v : Nat → PyData} (hn : n = l.length) (h : ∀ (i : Nat) (hi : i < l.length), v i = f l[i]) : (List.range n).map v = l.map f := by
  subst hn
  apply List.ext_getElem
  · simp
  · intro i h1 h2
    simp at h1
    simp [h i h1]
structure Ctx (P : Program) (K : PySem.W.Frag) (mg : Str → Option Value) (base : Heap) : Prop where
  bl : Bl mg
  seer : base.NoSeer
  tree : P.given.tree = none
end SF
namespace SF
open PySem PySem.Spec PyProof.Rows L2
def spD (K : PySem.W.Frag) (R : List PyData → PyData → Prop) : Sp := fun vs H Q _ => ∃ ds d, DdAll K H vs ds ∧ R ds d ∧ ∀ v H2, Ex H H2 → Dd K H2 v d → Q v H2
def spF (K : PySem.W.Frag) (R : List PyData → List PyData → Prop) : Sp := fun vs H Q _ => ∃ ds es, DdAll K H vs ds ∧ R ds es ∧ ∀ p xs H2, H p = none → Ex H H2 → H2 p = some (.lst xs) → DdAll K H2 xs es → Q (.ref p) H2
theorem spD_go {K : PySem.W.Frag} {R : List PyData → PyData → Prop} {ds : List PyData} {d : PyData} (h : R ds d) : SpD K (spD K R) ds d := fun vs H hv Q E q => ⟨ds, d, hv, h, q⟩
theorem spF_go {K : PySem.W.Frag} {R : List PyData → List PyData → Prop} {ds es : List PyData} (h : R ds es) : SpF K (spF K R) ds es := fun vs H hv Q E q => ⟨ds, es, hv, h, q⟩
theorem dd1 {K : PySem.W.Frag} {H : Hp} {vs : List V} {a : PyData} (h : DdAll K H vs [a]) : ∃ x, vs = [x] ∧ Dd K H x a := by
  cases h with
  | cons h1 h2 => cases h2; exact ⟨_, rfl, h1⟩
theorem dd2 {K : PySem.W.Frag} {H : Hp} {vs : List V} {a b : PyData} (h : DdAll K H vs [a, b]) : ∃ x y, vs = [x, y] ∧ Dd K H x a ∧ Dd K H y b := by
  cases h with
  | cons h1 h2 => obtain ⟨y, rfl, h3⟩ := dd1 h2; exact ⟨_, y, rfl, h1, h3⟩
theorem dd3 {K : PySem.W.Frag} {H : Hp} {vs : List V} {a b c : PyData} (h : DdAll K H vs [a, b, c]) : ∃ x y z, vs = [x, y, z] ∧ Dd K H x a ∧ Dd K H y b ∧ Dd K H z c := by
  cases h with
  | cons h1 h2 => obtain ⟨y, z, rfl, h3, h4⟩ := dd2 h2; exact ⟨_, y, z, rfl, h1, h3, h4⟩
theorem dd4 {K : PySem.W.Frag} {H : Hp} {vs : List V} {a b c d : PyData} (h : DdAll K H vs [a, b, c, d]) : ∃ x y z u, vs = [x, y, z, u] ∧ Dd K H x a ∧ Dd K H y b ∧ Dd K H z c ∧ Dd K H u d := by
  cases h with
  | cons h1 h2 => obtain ⟨y, z, u, rfl, h3, h4, h5⟩ := dd3 h2; exact ⟨_, y, z, u, rfl, h1, h3, h4, h5⟩
theorem pt_at {K : PySem.W.Frag} {H : Hp} {p : Pt} {i : Nat} {d : PyData} {x : V} (h : (p.map PyData.int)[i]? = some d) (hx : Dd K H x d) : ∃ n, p[i]? = some n ∧ x = .int n := by
  obtain ⟨n, e, rfl⟩ := map_got h
  exact ⟨n, e, dp_int hx⟩
end SF
namespace SF
open PySem PySem.Spec PyProof.Rows L2
section
variable {X : Cx} (K : PySem.W.Frag)
theorem addK (h : X.K = K := by rfl) : OpR X (binaryOp .Add) (rAddA K) := by subst h; exact opAdd
theorem ixK (h : X.K = K := by rfl) : IxR X (rIx K) := by subst h; exact ix_seq
theorem slK (h : X.K = K := by rfl) : SlR X (rSlAny K) := by subst h; exact slAny
theorem eqK (hu : X.A.units + 64 < cLine) (h : X.K = K := by rfl) : OpR X (compareOp .Eq) (rEqD K) := by subst h; exact op_eqD hu
theorem neK (hu : X.A.units + 64 < cLine) (h : X.K = K := by rfl) : OpR X (compareOp .NotEq) (rNeD K) := by subst h; exact op_neD hu
def rLen (K : PySem.W.Frag) : List V → Hp → VK → Prop := fun xs H Q => ∃ p ys, xs = [.ref p] ∧ (SqL K H p ys ∨ SqT K H p ys) ∧ Q (.int ys.length) H
theorem lenK (h : X.K = K := by rfl) : CallR X (.builtin "len") (rLen K) := by subst h; exact call_len_seq
theorem sumK (hc : X.calm = true) (h : X.K = K := by rfl) : CallR X (.builtin "sum") (rSum K) := by subst h; exact cr_sum hc
theorem allK (hc : X.calm = true) (h : X.K = K := by rfl) : CallR X (.builtin "all") (rAll K) := by subst h; exact cr_all hc
theorem isiK (h : X.K = K := by rfl) : CallR X (.builtin "isinstance") (rIsi K) := by subst h; exact call_isi
theorem tupleK (h : X.K = K := by rfl) : CallR X (.type "tuple") (rTupleOf K) := by subst h; exact call_tupleOf
theorem listK (h : X.K = K := by rfl) : CallR X (.type "list") (rListOf K) := by subst h; exact call_listOf
theorem fldK {e : Expr} {f : Str} {pos : Pos} {ta : TE} (he : PE X e ta) (hb : attributeBase e f X.env (eval e X.env) = eval e X.env := by rfl) (h : X.K = K := by rfl) : PE X (.Attribute e f pos) (tFld K ta f) := by subst h; exact pe_fld he hb
theorem tupG {es : List Expr} {k : Nat} {t : TGs} {pos : Pos} (n : Nat) (hc : X.calm = true) (hp : PGs X es t) (h : X.K = K := by rfl)
    (hn : (assignEach es X.env).length = n := by rfl) (hst : (assignEach es X.env).findIdx? (·.1) = none := by rfl) : PG X (.Tuple es k pos) (gTup K n t) := by subst h; exact pg_tup hc hp hn hst
theorem piLT {tg l : Expr} {tl : TE} (hl : PE X l tl) (h : X.K = K := by rfl) : PI X tg l (iLT K tl) := by subst h; exact pi_LT hl
theorem piZip {e e2 : Expr} {ta : TA} {p pos tpos : Pos} {elts : List Expr} {kk : Nat} (hg : Gl X "zip") (hm : X.mg "zip" = none) (ha : PA X [e, e2] ta) (h : X.K = K := by rfl)
    (hs : starEach [e, e2] X.env = (false, eval e X.env) :: starEach [e2] X.env := by rfl) (hpl : (backTo pos (starEach [e2] X.env)).any (·.1) = false := by rfl) :
    PI X (.Tuple elts kk tpos) (.Call (.Name "zip" p) [e, e2] [] pos) (iZipM K ta) := by subst h; exact pi_zipM hg hm ha hs hpl
theorem piEnum {e : Expr} {ta : TA} {p pos tpos : Pos} {elts : List Expr} {kk : Nat} (hg : Gl X "enumerate") (hm : X.mg "enumerate" = none) (ha : PA X [e] ta) (h : X.K = K := by rfl) (hs : starEach [e] X.env = [(false, eval e X.env)] := by rfl) :
    PI X (.Tuple elts kk tpos) (.Call (.Name "enumerate" p) [e] [] pos) (iEnumM K ta) := by subst h; exact pi_enumM hg hm ha hs
end
section
variable {K : PySem.W.Frag} {ds : List PyData}
theorem rc_lenL' : RC K (rLen K) [.list ds] (.int ds.length) := rc_lenL
theorem rc_lenT' : RC K (rLen K) [.tuple ds] (.int ds.length) := rc_lenT
end
end SF
namespace SF
open PySem PySem.Spec PyProof.Rows L2
section
variable {K : PySem.W.Frag} {σ : L2.St} {H : Hp} {tr ti tc te : TE}
theorem ev_rowAt {R : List Row} {k : Int} {n : Nat} (h : EvD K tr σ H (.list (R.map rowD))) (hi : EvD K ti σ H (.int k)) (hk : k = (n : Int)) (hn : n < R.length) : EvD K (tOp (rIx K) tr ti) σ H (rowD (row R n)) :=
  ev_op h hi (rd_ixL hk (map_get (row_get hn)))
theorem ev_fst {r : Row} (h : EvD K te σ H (rowD r)) : EvD K (tOp (rIx K) te (tC (.int 0))) σ H (ptD r.1) := ev_op h ev_cI (rd_ixT (n := 0) rfl rfl)
theorem ev_snd {r : Row} (h : EvD K te σ H (rowD r)) : EvD K (tOp (rIx K) te (tC (.int 1))) σ H (ptD r.2) := ev_op h ev_cI (rd_ixT (n := 1) rfl rfl)
theorem ev_ptAt {p : Pt} {k : Int} {n : Nat} (h : EvD K te σ H (ptD p)) (hi : EvD K ti σ H (.int k)) (hk : k = (n : Int)) (hn : n < p.length) : EvD K (tOp (rIx K) te ti) σ H (.int (vf p n)) :=
  ev_op h hi (rd_ixT hk (ptD_get (get_vf hn)))
theorem ev_plAt {p : Pt} {k : Int} {n : Nat} (h : EvD K te σ H (plD p)) (hi : EvD K ti σ H (.int k)) (hk : k = (n : Int)) (hn : n < p.length) : EvD K (tOp (rIx K) te ti) σ H (.int (vf p n)) :=
  ev_op h hi (rd_ixL hk (ptD_get (get_vf hn)))
theorem ev_ent {R : List Row} {k l : Int} {n c : Nat} (h : EvD K tr σ H (.list (R.map rowD))) (hi : EvD K ti σ H (.int k)) (hk : k = (n : Int)) (hn : n < R.length) (hc : EvD K tc σ H (.int l)) (hl : l = (c : Int)) (hw : c < (row R n).1.length) :
    EvD K (tOp (rIx K) (tOp (rIx K) (tOp (rIx K) tr ti) (tC (.int 0))) tc) σ H (.int (ent R n c)) :=
  ev_ptAt (ev_fst (ev_rowAt h hi hk hn)) hc hl hw
def optD : Option Nat → PyData
  | none => .none
  | some a => .int (a : Int)
def optV : Option Nat → V
  | none => .non
  | some a => .int (a : Int)
theorem dd_opt {t : Option Nat} {v : V} (h : Dd K H v (optD t)) : v = optV t := by
  cases t with
  | none => exact dp_non h
  | some a => exact dp_int h
theorem dd_optV (t : Option Nat) : Dd K H (optV t) (optD t) := by
  cases t with
  | none => exact .non
  | some a => exact .int _
theorem list_dd {p : List Row} : tupOAll (p.map rowD) = true := tupOAll_map tupO_row p
end
end SF
namespace SF
open PySem PySem.Spec PyProof.Rows L2
theorem nWS : ¬ (("width" : Str) = "steps") := by decide +kernel
def fFlds (W : Int) (l : Addr) : List (Str × V) := putF "steps" (.ref l) (putF "width" (.int W) [])
theorem fFlds_w (W : Int) (l : Addr) : (fFlds W l).lookup ("width" : Str) = some (.int W) := by
  unfold fFlds
  rw [lookup_putF, if_neg nWS, lookup_putF, if_pos rfl]
theorem fFlds_s (W : Int) (l : Addr) : (fFlds W l).lookup ("steps" : Str) = some (.ref l) := by
  unfold fFlds
  rw [lookup_putF, if_pos rfl]
def IEx (H H' : Hp) : Prop := (∀ a xs, H a = some (.lst xs) → H' a = some (.lst xs)) ∧ ∀ a o u, H a = some (.frz o u) → H' a = some (.frz o u)
theorem iex_ins {H : Hp} {p C dx : Addr} {fs : List (Str × V)} {o : HO} (h : H p = some (.ins C dx fs)) : IEx H (upd H p o) :=
  ⟨fun a xs e => by rw [upd_ne (by rintro rfl; rw [h] at e; cases e)]; exact e, fun a ob u e => by rw [upd_ne (by rintro rfl; rw [h] at e; cases e)]; exact e⟩
theorem iex_l {K : PySem.W.Frag} {H H' : Hp} {a : Addr} {xs : List V} (e : IEx H H') (h : SqL K H a xs) : SqL K H' a xs := by
  rcases h with (h | ⟨o, h⟩) | h
  · exact .inl (.inl (e.1 a xs h))
  · exact .inl (.inr ⟨o, e.2 a o _ h⟩)
  · exact .inr h
mutual
theorem dd_iex {K : PySem.W.Frag} {H H' : Hp} (e : IEx H H') : ∀ (d : PyData) (v : V), Dd K H v d → Dd K H' v d
  | .none, _, h => by cases h; exact .non
  | .bool b, _, h => by cases h; exact .bl b
  | .int i, _, h => by cases h; exact .int i
  | .str x, _, h => by cases h; exact .str x
  | .list ds, _, h => by
    cases h with
    | lst hs ha => exact .lst (iex_l e hs) (ddAll_iex e ds _ ha)
  | .tuple ds, _, h => by
    cases h with
    | tup hs ha =>
      obtain ⟨o, h1, h2⟩ := hs
      exact .tup ⟨o, e.2 _ _ _ h1, h2⟩ (ddAll_iex e ds _ ha)
  | .dict _, _, h => by cases h
theorem ddAll_iex {K : PySem.W.Frag} {H H' : Hp} (e : IEx H H') : ∀ (ds : List PyData) (vs : List V), DdAll K H vs ds → DdAll K H' vs ds
  | [], _, h => by cases h; exact .nil
  | d :: ds, _, h => by
    cases h with
    | cons h1 h2 => exact .cons (dd_iex e d _ h1) (ddAll_iex e ds _ h2)
end
def FieldAt (C : Addr) (K : PySem.W.Frag) (H : Hp) (a : Addr) (W : Nat) (S : List Pt) : Prop := ∃ dx l xs, H a = some (.ins C dx (fFlds (W : Int) l)) ∧ H l = some (.lst xs) ∧ DdAll K H xs (S.map ptD)
theorem FieldAt.up {C : Addr} {K : PySem.W.Frag} {H H' : Hp} {a : Addr} {W : Nat} {S : List Pt} (h : FieldAt C K H a W S) (e : Ex H H') : FieldAt C K H' a W S := by
  obtain ⟨dx, l, xs, h1, h2, h3⟩ := h
  exact ⟨dx, l, xs, e a _ h1, e l _ h2, h3.up e⟩
def FieldL (C : Addr) (K : PySem.W.Frag) (H : Hp) (a l : Addr) (W : Nat) (S : List Pt) : Prop := ∃ dx xs, H a = some (.ins C dx (fFlds (W : Int) l)) ∧ H l = some (.lst xs) ∧ DdAll K H xs (S.map ptD)
theorem FieldL.at {C : Addr} {K : PySem.W.Frag} {H : Hp} {a l : Addr} {W : Nat} {S : List Pt} (h : FieldL C K H a l W S) : FieldAt C K H a W S := let ⟨dx, xs, h1, h2, h3⟩ := h; ⟨dx, l, xs, h1, h2, h3⟩
theorem FieldL.up {C : Addr} {K : PySem.W.Frag} {H H' : Hp} {a l : Addr} {W : Nat} {S : List Pt} (h : FieldL C K H a l W S) (e : Ex H H') : FieldL C K H' a l W S := by
  obtain ⟨dx, xs, h1, h2, h3⟩ := h
  exact ⟨dx, xs, e a _ h1, e l _ h2, h3.up e⟩
structure FCls (K : PySem.W.Frag) (C : Addr) : Prop where
  cl : Cls K C
  nW : NoAttr K C "width"
  nS : NoAttr K C "steps"
structure CalM (P : Program) (w : World) (K : PySem.W.Frag) (mg : Str → Option Value) (base : Heap) (k : Nat) (x : Str) (C : Addr) (ps : List Str) (sp : Sp) : Prop where
  ex : ∃ (f : Addr) (fd : FuncData), Mk K C f ∧ FnOk P w K mg base CX0 k f fd ps sp ∧ mg x = some (.ref C) ∧ Binds K fd ps []
theorem pe_mkF {X : Cx} {k j : Nat} {x : Str} {C : Addr} {ps : List Str} {sp : Sp} {e : Expr} {es : List Expr} {t : TA} {p pos : Pos} (M : CalM X.prog X.w X.K X.mg X.base k x C ps sp) (hr : Room j X.A) (hk : k + 1 ≤ j) (hg : Gl X x) (ha : PA X (e :: es) t)
    (hdb : (x == ("__debug__" : Str)) = false := by decide) (he : starEach (e :: es) X.env = (false, eval e X.env) :: starEach es X.env := by rfl) (hpl : (backTo pos (starEach es X.env)).any (·.1) = false := by rfl) :
    PE X (.Call (.Name x p) (e :: es) [] pos) (tMake C sp [] E0 t) := by
  obtain ⟨f, fd, m, F, hm, hb⟩ := M.ex
  exact pe_make m F (hr.mono hk) hg hm hb .nil pass0 ha hdb he hpl
def Handed (ds : List PyData) (S : List Pt) : Prop := ds.length = S.length ∧ ∀ i d, ds[i]? = some d → d = ptD (S.getD i []) ∨ d = plD (S.getD i [])
theorem handed_pts (S : List Pt) : Handed (S.map ptD) S := ⟨by simp, fun i d h => by
  obtain ⟨p, e, rfl⟩ := map_got h
  refine .inl ?_
  rw [List.getD_eq_getElem?_getD, e]; rfl⟩
theorem handed_pls (S : List Pt) : Handed (S.map plD) S := ⟨by simp, fun i d h => by
  obtain ⟨p, e, rfl⟩ := map_got h
  refine .inr ?_
  rw [List.getD_eq_getElem?_getD, e]; rfl⟩
structure FOk (W : Nat) (S : List Pt) : Prop where
  w1 : 1 ≤ W
  w4 : W ≤ 4
  n6 : S.length ≤ 6
  len : ∀ k, k < S.length → (S.getD k []).length = W
def spInit (C : Addr) (K : PySem.W.Frag) : Sp := fun vs H Q _ => ∃ (p dx : Addr) (x : V) (W : Nat) (S : List Pt) (ds : List PyData), vs = [.ref p, .int (W : Int), x] ∧ H p = some (.ins C dx []) ∧ Dd K H x (.list ds) ∧ Handed ds S ∧ FOk W S ∧
  ∀ H' l, H l = none → FieldL C K H' p l W S → (∀ b o, H b = some o → b ≠ p → H' b = some o) → Q .non H'
def EvM (C : Addr) (K : PySem.W.Frag) (te : TE) (σ : L2.St) (H : Hp) (W : Nat) (S : List Pt) : Prop := ∀ H1, Ex H H1 → ∀ Q : VK, (∀ a H2, H1 a = none → Ex H1 H2 → FieldAt C K H2 a W S → Q (.ref a) H2) → te σ H1 Q
section
variable {K : PySem.W.Frag} {σ : L2.St} {H H' : Hp} {ta te : TE} {C : Addr} {W : Nat} {S : List Pt} {ds : List PyData}
theorem ev_make {t : TA} {E : XK} (h : EvDs K t σ H [.int (W : Int), .list ds]) (hh : Handed ds S) (hf : FOk W S) : EvM C K (tMake C (spInit C K) [] E t) σ H W S := fun H1 e Q q =>
  h H1 e _ fun vs H2 e2 hv => by
    obtain ⟨x, y, rfl, hx, hy⟩ := dd2 hv
    obtain rfl := dp_int hx
    refine fun a dx ha hdx hne => ?_
    have e3 : Ex H2 (upd (upd H2 dx (.own a)) a (.ins C dx [])) := fun b o hb => by
      rw [upd_ne (ne_of_none hb ha), upd_ne (ne_of_none hb hdx)]
      exact hb
    refine ⟨a, dx, y, W, S, ds, by simp, upd_same, hy.up e3, hh, hf, fun H' l hl hF hk => ⟨rfl, ?_⟩⟩
    exact q a H' (ex_back e2 ha) (ex_tr e2 fun b o hb => hk b o (e3 b o hb) (ne_of_none hb ha)) hF.at
theorem ev_makeL {t : TA} {E : XK} (h : EvDs K t σ H [.int (W : Int), .list ds]) (hh : Handed ds S) (hf : FOk W S) (Q : VK) (q : ∀ a l H2, H a = none → H l = none → Ex H H2 → FieldL C K H2 a l W S → Q (.ref a) H2) : (tMake C (spInit C K) [] E t) σ H Q :=
  h H ex_refl _ fun vs H2 e2 hv => by
    obtain ⟨x, y, rfl, hx, hy⟩ := dd2 hv
    obtain rfl := dp_int hx
    refine fun a dx ha hdx hne => ?_
    have e3 : Ex H2 (upd (upd H2 dx (.own a)) a (.ins C dx [])) := fun b o hb => by
      rw [upd_ne (ne_of_none hb ha), upd_ne (ne_of_none hb hdx)]
      exact hb
    refine ⟨a, dx, y, W, S, ds, by simp, upd_same, hy.up e3, hh, hf, fun H' l hl hF hk => ⟨rfl, ?_⟩⟩
    exact q a l H' (ex_back e2 ha) (ex_back (ex_tr e2 e3) hl) (ex_tr e2 fun b o hb => hk b o (e3 b o hb) (ne_of_none hb ha)) hF
theorem ev_width {i : Nat} {a : Addr} (F : FCls K C) (hf : FieldAt C K H a W S) (h : σ[i]? = some (some (.ref a))) : EvD K (tFld K (tVar i) "width") σ H (.int (W : Int)) := fun H1 e Q q => by
  obtain ⟨dx, l, xs, h1, h2, h3⟩ := hf.up e
  exact ⟨_, h, a, C, dx, _, _, rfl, h1, F.cl, F.nW, fFlds_w _ _, q _ H1 ex_refl (.int _)⟩
theorem el_steps {i : Nat} {a : Addr} (F : FCls K C) (hf : FieldAt C K H a W S) (h : σ[i]? = some (some (.ref a))) : EvL K (tFld K (tVar i) "steps") σ H (S.map ptD) := fun H1 e Q q => by
  obtain ⟨dx, l, xs, h1, h2, h3⟩ := hf.up e
  exact ⟨_, h, a, C, dx, _, _, rfl, h1, F.cl, F.nS, fFlds_s _ _, q l xs H1 ex_refl h2 h3⟩
theorem s_asgM {D : Ends} {i : Nat} (h : EvM C K te σ H W S) (k : ∀ a H1, H a = none → Ex H H1 → FieldAt C K H1 a W S → D.nx (σ.set i (some (.ref a))) H1) : tAsg te (gName i) D σ H := h H ex_refl _ k
end
theorem s_fldF {K : PySem.W.Frag} {σ : L2.St} {H : Hp} {ta tv : TE} {D : Ends} {f : Str} {ds : List PyData} (h : EvF K tv σ H ds)
    (k : ∀ l ls H1, H l = none → Ex H H1 → H1 l = some (.lst ls) → DdAll K H1 ls ds → ta σ H1 fun x H2 => ∃ a C dx fs, x = .ref a ∧ H2 a = some (.ins C dx fs) ∧ Cls K C ∧ NoAttr K C f ∧ fs.length < 1000 ∧ D.nx σ (upd H2 a (.ins C dx (putF f (.ref l) fs)))) : sFld K ta tv f D σ H :=
  h H ex_refl _ fun l ls H1 h1 e h2 h3 => k l ls H1 h1 e h2 h3
def spOne (C : Addr) (K : PySem.W.Frag) (R : Nat → List Pt → Prop) (post : Nat → List Pt → Hp → VK → Prop) : Sp := fun vs H Q _ => ∃ a W S, vs = [.ref a] ∧ FieldAt C K H a W S ∧ R W S ∧ post W S H Q
end SF
namespace SF
open PySem PySem.Spec PyProof.Rows L2
def Ex1 (s : Addr) (H H' : Hp) : Prop := ∀ b o, H b = some o → b ≠ s → H' b = some o
theorem ex1_of {s : Addr} {H H' : Hp} (e : Ex H H') : Ex1 s H H' := fun b o h _ => e b o h
theorem ex1_tr {s : Addr} {H H1 H2 : Hp} (a : Ex1 s H H1) (b : Ex1 s H1 H2) : Ex1 s H H2 := fun c o h n => b c o (a c o h n) n
theorem ex1_upd {s : Addr} {H : Hp} {o : HO} : Ex1 s H (upd H s o) := fun b u h n => by rw [upd_ne n]; exact h
theorem ex1_mut {s l : Addr} {H0 H H' : Hp} (a : Ex1 s H0 H) (n : H0 l = none) (b : Ex1 l H H') : Ex1 s H0 H' := fun c o h q => b c o (a c o h q) (by rintro rfl; rw [n] at h; cases h)
theorem tex1 {s : Addr} {H H' : Hp} {xs : List V} (e : Ex1 s H H') (h : H s = some (.lst xs)) : TEx H H' := fun a ys q => by
  obtain ⟨o, q, d⟩ := q
  exact ⟨o, e a _ q (by rintro rfl; rw [h] at q; cases q), d⟩
def Scr (K : PySem.W.Frag) (H : Hp) (x : V) (ns : List Int) : Prop := ∃ a, x = .ref a ∧ ((∃ o, H a = some (.frz o (.lst (ns.map V.int)))) ∨ ∃ (o : Obj) (its : Array Value) (n : Nat), K.lookup a = some o ∧ o.cls = .type "list" ∧ o.dict = none ∧ o.data = .seq its n ∧ its.size ≤ sizeLine ∧ Vals (ns.map V.int) its.toList)
theorem Scr.dd {K : PySem.W.Frag} {H : Hp} {x : V} {ns : List Int} (h : Scr K H x ns) : Dd K H x (plD ns) := by
  obtain ⟨a, rfl, h⟩ := h
  refine .lst (xs := ns.map V.int) ?_ (DdAll.ints ns)
  rcases h with ⟨o, h⟩ | h
  · exact .inl (.inr ⟨o, h⟩)
  · exact .inr h
theorem Scr.up {K : PySem.W.Frag} {H H' : Hp} {x : V} {ns : List Int} (h : Scr K H x ns) (e : Ex H H') : Scr K H' x ns := by
  obtain ⟨a, rfl, h⟩ := h
  refine ⟨a, rfl, ?_⟩
  rcases h with ⟨o, h⟩ | h
  · exact .inl ⟨o, e a _ h⟩
  · exact .inr h
theorem Scr.up1 {K : PySem.W.Frag} {H H' : Hp} {x : V} {ns : List Int} {s : Addr} {xs : List V} (h : Scr K H x ns) (e : Ex1 s H H') (hs : H s = some (.lst xs)) : Scr K H' x ns := by
  obtain ⟨a, rfl, h⟩ := h
  refine ⟨a, rfl, ?_⟩
  rcases h with ⟨o, h⟩ | h
  · exact .inl ⟨o, e a _ h (by rintro rfl; rw [hs] at h; cases h)⟩
  · exact .inr h
theorem scr_of {K : PySem.W.Frag} {H : Hp} {a : Addr} {ns : List Int} (ho : Only H) (h : SqL K H a (ns.map V.int)) : Scr K H (.ref a) ns := by
  refine ⟨a, rfl, ?_⟩
  rcases h with (h | h) | h
  · rcases ho a with z | ⟨o, xs, z⟩
    · rw [h] at z; cases z
    · rw [h] at z; cases z
  · exact .inl h
  · exact .inr h
def EvR (te : TE) (σ : L2.St) (H : Hp) (P : V → Hp → Prop) : Prop := ∀ Q : VK, (∀ v H', P v H' → Q v H') → te σ H Q
section
variable {K : PySem.W.Frag} {σ : L2.St} {H : Hp} {te ta tb : TE} {D : Ends} {i : Nat} {d : PyData} {ds : List PyData}
theorem s_asgR {P : V → Hp → Prop} (h : EvR te σ H P) (k : ∀ v H1, P v H1 → D.nx (σ.set i (some v)) H1) : tAsg te (gName i) D σ H := h _ k
theorem er_op {r : R2} {P P2 : V → Hp → Prop} (h : EvR ta σ H P) (h2 : ∀ x H1, P x H1 → ∀ Q : VK, (∀ v H', P2 v H' → Q v H') → tb σ H1 fun y H2 => r x y H2 Q) : EvR (tOp r ta tb) σ H P2 := fun Q q => h _ fun x H1 p => h2 x H1 p Q q
theorem s_app1 {l : Addr} {io : Nat} {xs : List V} (hl : H l = some (.lst xs)) (hd : DdAll K H xs ds) (ht : tupOAll ds = true) (ho : σ[io]? = some (some (.ref l))) (h : EvD K te σ H d) (htd : tupO d = true) (hz : ds.length < 100000)
    (k : ∀ H1 ys, Ex1 l H H1 → H1 l = some (.lst ys) → DdAll K H1 ys (ds ++ [d]) → D.nx σ H1) : tDrop (tBM K "list" rAppend (tVar io) (tCons te tNil)) D σ H := by
  refine ⟨_, ho, Or.inl ⟨rfl, xs, SqL.of hl⟩, ?_⟩
  refine h H ex_refl _ fun v H1 e1 hv => ?_
  have h1 := e1 l _ hl
  refine ⟨l, xs, v, rfl, rfl, h1, Evl.sz_lt (by rw [hd.len]; exact hz), ?_⟩
  refine k _ _ (ex1_tr (ex1_of e1) ex1_upd) upd_same ?_
  exact ((hd.up e1).app (.cons hv .nil)).tx (tex_upd h1) (tupOAll_app ht (by simp [tupOAll, htd]))
theorem s_set1 {l : Addr} {io : Nat} {xs : List V} {ti : TE} {j : Int} {n : Nat} (hl : H l = some (.lst xs)) (hd : DdAll K H xs ds) (ht : tupOAll ds = true) (ho : σ[io]? = some (some (.ref l))) (h : EvD K te σ H d) (htd : tupO d = true) (hi : EvD K ti σ H (.int j)) (hj : j = (n : Int)) (hn : n < ds.length)
    (k : ∀ H1 ys, Ex1 l H H1 → H1 l = some (.lst ys) → DdAll K H1 ys (ds.set n d) → D.nx σ H1) : tAsg te (gSub (tVar io) ti rSetL) D σ H := by
  refine h H ex_refl _ fun v H1 e1 hv => ⟨_, ho, ?_⟩
  refine hi H1 e1 _ fun w H2 e2 hw => ?_
  obtain rfl := dp_int hw
  have h2 := (ex_tr e1 e2) l _ hl
  refine ⟨l, xs, j, n, rfl, rfl, h2, ?_, ?_⟩
  · subst hj; exact Evl.ixN_nat (by rw [hd.len]; exact hn)
  · refine k _ _ (ex1_tr (ex1_of (ex_tr e1 e2)) ex1_upd) upd_same ?_
    exact (DdAll.set (hv.up e2) n (hd.up (ex_tr e1 e2))).tx (tex_upd h2) (tupOAll_set htd n ht)
end
def spNext (K : PySem.W.Frag) : Sp := fun vs H Q _ => ∃ (x : V) (sp : Addr) (ns : List Int) (p : Nat), vs = [x, .ref sp] ∧ Scr K H x ns ∧ ns.length ≤ 1000 ∧ H sp = some (.lst [.int (p : Int)]) ∧
  ∀ H', Ex1 sp H H' → H' sp = some (.lst [.int ((p + 1 : Nat) : Int)]) → Q (.int (vf ns p)) H'
section
variable {K : PySem.W.Frag} {σ : L2.St} {H : Hp} {te ta tb : TE} {D : Ends} {tu : TS}
theorem s_forX {t : TA} {j : Nat} {P : Int → Hp → Prop} (h : ∀ Q : List V → Hp → Prop, (∀ n H', P n H' → Q [.int n] H') → t σ H Q)
    (k : ∀ n H1, P n H1 → (-100000 ≤ n ∧ n ≤ 100000) ∧ ∃ Pv : Nat → L2.St → Hp → Prop, Pv 0 σ H1 ∧ (∀ (i : Nat) σ' H', (i : Int) < n → Pv i σ' H' → tu { D with nx := Pv (i + 1), ct := Pv (i + 1), bk := D.nx } (σ'.set j (some (.int (i : Int)))) H') ∧ ∀ σ' H', Pv n.toNat σ' H' → D.nx σ' H') : tFor (iRng1 t) (gName j) tu D σ H :=
  h _ fun n H1 p => by
    obtain ⟨hn, Pv, h0, hs, hd⟩ := k n H1 p
    exact ⟨n, rfl, by omega, by omega, for_range (lo := 0) (n := n.toNat) Pv h0 (fun i σ' H' hi p => by
      have e0 : (0 : Int) + (i : Int) = (i : Int) := Int.zero_add _
      show tu { D with nx := Pv (i + 1), ct := Pv (i + 1), bk := D.nx } (σ'.set j (some (.int ((0 : Int) + (i : Int))))) H'
      rw [e0]
      exact hs i σ' H' (by omega) p) hd⟩
theorem er_lcR {t : TA} {j : Nat} {n : Int} (h : EvDs K t σ H [.int n]) (hn : n ≤ 50000) (hn0 : -100000 ≤ n) (hw : ∀ x, wipe ((wipe σ [j]).set j (some x)) [j] = wipe σ [j]) (Pv : Addr → Nat → Hp → Prop)
    (h0 : ∀ H1 Da, Ex H H1 → H1 Da = none → Pv Da 0 (upd H1 Da (.lst [])))
    (hs : ∀ Da (i : Nat) H', (i : Int) < n → Pv Da i H' → te ((wipe σ [j]).set j (some (.int (i : Int)))) H' fun y H4 => ∃ acc, H4 Da = some (.lst acc) ∧ acc.length < sizeLine ∧ Pv Da (i + 1) (upd H4 Da (.lst (acc ++ [y])))) :
    EvR (tLc (iRng1 t) (gName j) tYes te [j]) σ H (fun v H' => ∃ Da, v = .ref Da ∧ Pv Da n.toNat H') := fun Q q =>
  h H ex_refl _ fun vs H1 e hv => by
    cases hv with
    | cons h1 h2 =>
      cases h1; cases h2
      exact ⟨n, rfl, by omega, by omega, fun Da hD => lc_range (lo := 0) (n := n.toNat) (Pv Da) (h0 H1 Da e hD) (fun i H' hi p => by
        have e0 : (0 : Int) + (i : Int) = (i : Int) := Int.zero_add _
        refine ⟨?_, ?_⟩
        · show wipe ((wipe σ [j]).set j (some (.int ((0 : Int) + (i : Int))))) [j] = wipe σ [j]
          exact hw _
        · have z := hs Da i H' (by omega) p
          rw [← e0] at z
          exact z) (fun H' p => q _ H' ⟨Da, rfl, p⟩)⟩
theorem s_sq {t1 t2 : TS} {D : Ends} {σ : L2.St} {H : Hp} (h : t1 { D with nx := t2 D } σ H) : ({ D with nx := tSeq t1 t2 D } : Ends).nx σ H := h
theorem t_cons1 {t : TE} {σ : L2.St} {H : Hp} {Q : List V → Hp → Prop} (h : t σ H fun v H' => Q [v] H') : tCons t tNil σ H Q := h
theorem t_cb {r : List V → Hp → L2.VK → Prop} {t : TA} {σ : L2.St} {H : Hp} {Q : L2.VK} (h : t σ H fun vs H' => r vs H' Q) : tCB r t σ H Q := h
theorem er_next {E : XK} {ix isp : Nat} {x : V} {sp : Addr} {ns : List Int} {p : Nat} (hx : Scr K H x ns) (hn : ns.length ≤ 1000) (hs : H sp = some (.lst [.int (p : Int)])) (h1 : σ[ix]? = some (some x)) (h2 : σ[isp]? = some (some (.ref sp))) :
    EvR (tCall (spNext K) [] E (tCons (tVar ix) (tCons (tVar isp) tNil))) σ H (fun v H' => v = .int (vf ns p) ∧ Ex1 sp H H' ∧ H' sp = some (.lst [.int ((p + 1 : Nat) : Int)])) := fun Q q =>
  ⟨x, h1, .ref sp, h2, x, sp, ns, p, rfl, hx, hn, hs, fun H' e1 e2 => q _ H' ⟨rfl, e1, e2⟩⟩
end
def RCell (ds : List PyData) (d : PyData) : Prop := ∃ (ns : List Int) (k : Nat), ds = [plD ns, .int (k : Int)] ∧ d = .int (vf ns k) ∧ ns.length ≤ 1000
def NumOk (great : Bool) (n : Int) : Prop := n.natAbs ≤ 20 ∨ (great = true ∧ n.natAbs ≤ 1000000000000000)
def spNum (K : PySem.W.Frag) : Sp := fun vs H Q _ => ∃ (c : Int) (g : Bool), vs = [.int c, .bl g] ∧ ∀ n H', Ex H H' → NumOk g n → Q (.int n) H'
structure LSteps (W most : Nat) (great : Bool) (S : List Pt) : Prop where
  n : S.length ≤ most
  len : ∀ k, k < S.length → (S.getD k []).length = W
  bd : ∀ k, k < S.length → Bd (if great then 50 else 5 + 2 * k) (S.getD k [])
theorem LSteps.ok {W most : Nat} {great : Bool} {S : List Pt} (h : LSteps W most great S) {b : Nat} (hb : great = true → 50 ≤ b) (hb2 : great = false → 3 + 2 * most ≤ b) : StepsOk W b S := ⟨h.len, fun k hk x hx => by
  refine Nat.lt_of_lt_of_le (h.bd k hk x hx) (Nat.pow_le_pow_right (by omega) ?_)
  cases great with
  | true => exact hb rfl
  | false =>
    have := hb2 rfl
    have := h.n
    show 5 + 2 * k ≤ b
    omega⟩
def spSteps (K : PySem.W.Frag) : Sp := fun vs H Q _ => ∃ (x : V) (sp : Addr) (ns : List Int) (p W most : Nat) (great : Bool), vs = [x, .ref sp, .int (W : Int), .int (most : Int), .bl great] ∧ Scr K H x ns ∧ ns.length ≤ 1000 ∧ H sp = some (.lst [.int (p : Int)]) ∧ W ≤ 100 ∧ most ≤ 100 ∧
  ∀ (l : Addr) (xs : List V) (S : List Pt) (H' : Hp) (p' : Nat), H l = none → Ex1 sp H H' → H' sp = some (.lst [.int (p' : Int)]) → H' l = some (.lst xs) → DdAll K H' xs (S.map ptD) → LSteps W most great S → Q (.ref l) H'
end SF
namespace SF
open PySem PySem.Spec PyProof.Rows L2
theorem s_nx {t : TS} {D D' : Ends} {σ : L2.St} {H : Hp} (h : t D σ H) : ({ D' with nx := t D } : Ends).nx σ H := h
def stairP (W : Nat) (S : List Pt) : List Pt := (stairRows W S).map (·.1)
structure Good (W b : Nat) (S : List Pt) : Prop where
  ok : StepsOk W b S
  n : S.length ≤ 100
  w : W ≤ 100
  x : xs b W ≤ 40000000
  y : ys b W ≤ 90000000
structure Hnf (W : Nat) (L : List Pt) (E : Nat → Nat) : Prop where
  len : ∀ i, i < L.length → (L.getD i []).length = W
  mono : ∀ i i', i < i' → i' < L.length → E i < E i'
  lt : ∀ i, i < L.length → E i < W
  zero : ∀ i j, i < L.length → j < E i → pe L i j = 0
  pos : ∀ i, i < L.length → 0 < pe L i (E i)
  red : ∀ i i', i < i' → i' < L.length → 0 ≤ pe L i (E i') ∧ pe L i (E i') < pe L i' (E i')
theorem stairP_len {W b : Nat} {S : List Pt} (h : StepsOk W b S) : (stairP W S).length = (stairN S W).2 := by
  have ok := stOk_all h W
  obtain ⟨E, hE⟩ := ok.ech
  unfold stairP stairRows
  rw [List.length_map, List.length_take]
  have := hE.dl
  omega
theorem stairP_row {W b : Nat} {S : List Pt} (h : StepsOk W b S) {i : Nat} (hi : i < (stairP W S).length) : (stairP W S).getD i [] = (row (stairN S W).1 i).1 := by
  rw [stairP_len h] at hi
  have ok := stOk_all h W
  obtain ⟨E, hE⟩ := ok.ech
  have hd := hE.dl
  unfold stairP stairRows
  rw [List.getD_eq_getElem?_getD, List.getElem?_map, List.getElem?_take_of_lt hi]
  rw [row_get (by omega)]
  rfl
theorem stairP_pe {W b : Nat} {S : List Pt} (h : StepsOk W b S) {i : Nat} (hi : i < (stairP W S).length) (j : Nat) : pe (stairP W S) i j = ent (stairN S W).1 i j := by
  unfold pe ent
  rw [stairP_row h hi]
theorem stairP_hnf {W b : Nat} {S : List Pt} (h : StepsOk W b S) : ∃ E, Hnf W (stairP W S) E := by
  have ok := stOk_all h W
  obtain ⟨E, hE⟩ := ok.ech
  have hl := stairP_len h
  have hd := hE.dl
  refine ⟨E, ⟨fun i hi => ?_, fun i i' h1 h2 => hE.mono i i' h1 (by omega), fun i hi => hE.lt i (by omega), fun i j hi hj => ?_, fun i hi => ?_, fun i i' h1 h2 => ?_⟩⟩
  · rw [stairP_row h hi]
    exact ok.shp.pt i (by omega)
  · rw [stairP_pe h hi]
    exact hE.zero i j (by omega) hj
  · rw [stairP_pe h hi]
    exact hE.pos i (by omega)
  · rw [stairP_pe h h2, stairP_pe h (by omega)]
    exact hE.red i i' h1 (by omega)
theorem rest_zero {W b : Nat} {S : List Pt} (h : StepsOk W b S) {k : Nat} (h1 : (stairN S W).2 ≤ k) (h2 : k < (stairN S W).1.length) (j : Nat) : ent (stairN S W).1 k j = 0 := by
  have ok := stOk_all h W
  obtain ⟨E, hE⟩ := ok.ech
  by_cases hj : j < W
  · exact hE.below k j h1 h2 hj
  · unfold ent
    exact vf_beyond (by rw [ok.shp.pt k h2]; omega)
theorem stairP_lat {W b : Nat} {S : List Pt} (h : StepsOk W b S) : SameLat (stairP W S).length (pe (stairP W S)) S.length (pe S) := fun f => by
  have ok := stOk_all h W
  obtain ⟨E, hE⟩ := ok.ech
  have hl := stairP_len h
  have hd := hE.dl
  rw [← ok.sp f]
  constructor
  · refine Lat.sub fun k hk => ?_
    refine (Lat.mem (g := ent (stairN S W).1) (show k < (stairN S W).1.length by omega)).of fun j => ?_
    exact (stairP_pe h hk j).symm
  · refine Lat.sub fun k hk => ?_
    by_cases hk2 : k < (stairN S W).2
    · refine (Lat.mem (g := pe (stairP W S)) (show k < (stairP W S).length by omega)).of fun j => ?_
      exact stairP_pe h (by omega) j
    · exact Lat.zero.of fun j => (rest_zero h (by omega) hk j).symm
theorem stairP_bd {W b : Nat} {S : List Pt} (h : StepsOk W b S) {i : Nat} (hi : i < (stairP W S).length) : Bd (ys b W + 1) ((stairP W S).getD i []) := by
  have ok := stOk_all h W
  obtain ⟨E, hE⟩ := ok.ech
  have hl := stairP_len h
  have hd := hE.dl
  rw [stairP_row h hi]
  exact bd_of (ok.bdA i (Nat.zero_le _) (by omega)).1
theorem stairP_n {W b : Nat} {S : List Pt} (h : StepsOk W b S) : (stairP W S).length ≤ S.length := by
  have ok := stOk_all h W
  obtain ⟨E, hE⟩ := ok.ech
  have hl := stairP_len h
  have hd := hE.dl
  have := ok.len
  omega
theorem Hnf.nW {W : Nat} {L : List Pt} {E : Nat → Nat} (h : Hnf W L E) : L.length ≤ W := by
  have : ∀ i, i < L.length → i ≤ E i := fun i => by
    induction i with
    | zero => intro _; omega
    | succ i ih =>
      intro hi
      have a := ih (by omega)
      have b := h.mono i (i + 1) (by omega) hi
      omega
  by_cases z : L.length = 0
  · omega
  · have a := this (L.length - 1) (by omega)
    have b := h.lt (L.length - 1) (by omega)
    omega
def leftF (L : List Pt) (E : Nat → Nat) (p : Nat → Int) : Nat → (Nat → Int)
  | 0 => p
  | n + 1 => fun j => leftF L E p n j - (leftF L E p n (E n)).fdiv (pe L n (E n)) * pe L n j
theorem leftF_lat (L : List Pt) (E : Nat → Nat) (p : Nat → Int) : ∀ n, n ≤ L.length → Lat L.length (pe L) (fun j => p j - leftF L E p n j)
  | 0, _ => Lat.zero.of fun j => by show 0 = p j - p j; omega
  | n + 1, h => ((leftF_lat L E p n (by omega)).add n ((leftF L E p n (E n)).fdiv (pe L n (E n))) (by omega)).of fun j => by
    show _ = p j - (leftF L E p n j - _)
    omega
theorem leftF_red {W : Nat} {L : List Pt} {E : Nat → Nat} (h : Hnf W L E) (p : Nat → Int) : ∀ n, n ≤ L.length → ∀ i, i < n → 0 ≤ leftF L E p n (E i) ∧ leftF L E p n (E i) < pe L i (E i)
  | 0, _, i, hi => absurd hi (Nat.not_lt_zero _)
  | n + 1, hn, i, hi => by
    by_cases e : i = n
    · subst e
      have hp := h.pos i (by omega)
      have := fd_rem (leftF L E p i (E i)) (show pe L i (E i) ≠ 0 by omega)
      obtain ⟨t1, t2⟩ := this
      show 0 ≤ leftF L E p i (E i) - (leftF L E p i (E i)).fdiv (pe L i (E i)) * pe L i (E i) ∧ leftF L E p i (E i) - (leftF L E p i (E i)).fdiv (pe L i (E i)) * pe L i (E i) < pe L i (E i)
      generalize leftF L E p i (E i) - (leftF L E p i (E i)).fdiv (pe L i (E i)) * pe L i (E i) = r at *
      have : 0 ≤ r := by
        rcases Int.lt_or_le r 0 with c | c
        · have := Int.mul_neg_of_neg_of_pos c hp
          omega
        · exact c
      omega
    · have z : pe L n (E i) = 0 := h.zero n (E i) (by omega) (h.mono i n (by omega) (by omega))
      have ih := leftF_red h p n (by omega) i (by omega)
      show 0 ≤ leftF L E p n (E i) - _ * pe L n (E i) ∧ leftF L E p n (E i) - _ * pe L n (E i) < _
      rw [z]
      omega
theorem red_zero {W : Nat} {L : List Pt} {E : Nat → Nat} (h : Hnf W L E) {q : Nat → Int} (hq : Lat L.length (pe L) q) (hr : ∀ i, i < L.length → (q (E i)).natAbs < (pe L i (E i)).natAbs) : ∀ j, q j = 0 := by
  have key : ∃ c : Nat → Int, ∀ j, q j = sumN L.length fun i => c i * pe L i j := by
    clear hr
    induction hq with
    | zero => exact ⟨fun _ => 0, fun j => (sumN_zero fun i _ => Int.zero_mul _).symm⟩
    | @add f k c hk hf ih =>
      obtain ⟨d, hd⟩ := ih
      refine ⟨fun i => d i - (-c) * (if i < L.length ∧ i = k then (1 : Int) else 0), fun j => ?_⟩
      rw [sumN_lin, sumN_one (s := fun i => pe L i j) hk]
      show f j + c * pe L k j = _
      rw [hd j]
      have : -c * pe L k j = -(c * pe L k j) := Int.neg_mul _ _
      omega
  obtain ⟨c, hc⟩ := key
  have low : ∀ n, n ≤ L.length → (∀ i, i < n → c i = 0) := fun n => by
    induction n with
    | zero => intro _ i hi; omega
    | succ n ih =>
      intro hn i hi
      have ih := ih (by omega)
      by_cases e : i < n
      · exact ih i e
      · have e : i = n := by omega
        subst e
        have v : q (E i) = c i * pe L i (E i) := by
          rw [hc]
          have : ∀ m, m ≤ L.length → sumN m (fun k => c k * pe L k (E i)) = if i < m then c i * pe L i (E i) else 0 := fun m => by
            induction m with
            | zero => intro _; rw [if_neg (by omega)]; rfl
            | succ m ihm =>
              intro hm
              show sumN m _ + c m * pe L m (E i) = _
              rw [ihm (by omega)]
              by_cases a : i < m
              · rw [if_pos a, if_pos (by omega), h.zero m (E i) (by omega) (h.mono i m a (by omega))]
                omega
              · rw [if_neg a]
                by_cases b : i = m
                · subst b
                  rw [if_pos (by omega)]; omega
                · rw [if_neg (by omega), ih m (by omega)]
                  omega
          rw [this L.length (Nat.le_refl _), if_pos (by omega)]
        have r := hr i (by omega)
        rw [v, Int.natAbs_mul] at r
        by_cases z : c i = 0
        · exact z
        · exfalso
          have : 1 ≤ (c i).natAbs := by omega
          have := Nat.mul_le_mul_right (pe L i (E i)).natAbs this
          omega
  intro j
  rw [hc]
  exact sumN_zero fun i hi => by rw [low L.length (Nat.le_refl _) i hi]; omega
theorem left_zero {W : Nat} {L : List Pt} {E : Nat → Nat} (h : Hnf W L E) {p : Nat → Int} (hp : Lat L.length (pe L) p) : ∀ j, leftF L E p L.length j = 0 := by
  have hl : Lat L.length (pe L) (leftF L E p L.length) := (hp.minus (leftF_lat L E p L.length (Nat.le_refl _))).of fun j => by omega
  exact red_zero h hl fun i hi => by
    have := leftF_red h p L.length (Nat.le_refl _) i hi
    omega
theorem lat_of_left {L : List Pt} {E : Nat → Nat} {p : Nat → Int} (h : ∀ j, leftF L E p L.length j = 0) : Lat L.length (pe L) p :=
  (leftF_lat L E p L.length (Nat.le_refl _)).of fun j => by rw [h j]; omega
theorem givD_first {n e : Nat} {f : Nat → Bool} {v : Nat → PyData} (h0 : ∀ i, i < e → f i = false) (h1 : f e = true) (hn : e < n) : (givD n f v)[0]? = some (v e) := by
  have z : ∀ m, m ≤ e → givD m f v = [] := fun m => by
    induction m with
    | zero => intro _; rfl
    | succ m ih => intro h; rw [givD_no (h0 m (by omega)), ih (by omega)]
  have : ∀ m, (givD (e + 1 + m) f v)[0]? = some (v e) := fun m => by
    induction m with
    | zero => rw [Nat.add_zero, givD_yes h1, z e (Nat.le_refl _)]; rfl
    | succ m ih =>
      show (givD (e + 1 + m + 1) f v)[0]? = _
      cases hf : f (e + 1 + m) with
      | true =>
        rw [givD_yes hf, List.getElem?_append_left, ih]
        exact (List.getElem?_eq_some_iff.mp ih).1
      | false => rw [givD_no hf, ih]
  have := this (n - (e + 1))
  rwa [show e + 1 + (n - (e + 1)) = n by omega] at this
def leftP (L : List Pt) (E : Nat → Nat) (p : Pt) (n : Nat) : Pt := (List.range p.length).map fun j => leftF L E (vf p) n j
theorem leftP_len (L : List Pt) (E : Nat → Nat) (p : Pt) (n : Nat) : (leftP L E p n).length = p.length := by simp [leftP]
theorem leftP_vf {L : List Pt} {E : Nat → Nat} {p : Pt} {n j : Nat} (hj : j < p.length) : vf (leftP L E p n) j = leftF L E (vf p) n j := by
  unfold leftP vf
  simp [List.getD_eq_getElem?_getD, hj]
theorem leftP_zero (L : List Pt) (E : Nat → Nat) (p : Pt) : leftP L E p 0 = p := pt_ext (leftP_len _ _ _ _) fun j hj => by
  rw [leftP_len] at hj
  rw [leftP_vf hj]; rfl
theorem left_q {a d : Int} {x : Nat} (hd : d ≠ 0) (h : a.natAbs < 2 ^ x) : (a.fdiv d).natAbs < 2 ^ (x + 1) := by
  have := fd_abs a hd
  have : a.natAbs / d.natAbs ≤ a.natAbs := Nat.div_le_self _ _
  rw [Nat.pow_succ]
  omega
theorem left_bd {a q r : Int} {x y : Nat} (ha : a.natAbs < 2 ^ x) (hq : q.natAbs < 2 ^ (x + 1)) (hr : r.natAbs < 2 ^ y) : (a - q * r).natAbs < 2 ^ (x + y + 2) := by
  have h1 : (q * r).natAbs ≤ 2 ^ (x + 1) * 2 ^ y := by
    rw [Int.natAbs_mul]
    exact Nat.mul_le_mul (by omega) (by omega)
  have h2 : 2 ^ (x + y + 2) = 2 * (2 ^ (x + 1) * 2 ^ y) := by
    rw [← Nat.pow_add, show x + y + 2 = 1 + (x + 1 + y) by omega, Nat.pow_add 2 1]
  have h3 : 2 ^ x * 1 ≤ 2 ^ (x + 1) * 2 ^ y := Nat.mul_le_mul (Nat.pow_le_pow_right (by omega) (by omega)) Nat.one_le_two_pow
  omega
theorem left_bds {W : Nat} {L : List Pt} {E : Nat → Nat} (h : Hnf W L E) {p : Nat → Int} {x y : Nat} (hp : ∀ j, (p j).natAbs < 2 ^ x) (hy : ∀ i, i < L.length → Bd y (L.getD i [])) : ∀ n, n ≤ L.length → ∀ j, (leftF L E p n j).natAbs < 2 ^ (x + n * (y + 2))
  | 0, _, j => by rw [Nat.zero_mul]; exact hp j
  | n + 1, hn, j => by
    have ih := left_bds h hp hy n (by omega)
    have hq := left_q (d := pe L n (E n)) (by have := h.pos n (by omega); omega) (ih (E n))
    have hb := left_bd (ih j) hq (vf_bd (hy n (by omega)) j)
    have e : x + n * (y + 2) + y + 2 = x + (n + 1) * (y + 2) := by rw [Nat.succ_mul]; omega
    rw [e] at hb
    exact hb
def insideB (L : List Pt) (E : Nat → Nat) (p : Pt) : Bool := (leftP L E p L.length).all fun x => decide (x = 0)
theorem insideB_iff {W : Nat} {L : List Pt} {E : Nat → Nat} {p : Pt} (h : Hnf W L E) (hp : p.length = W) : insideB L E p = true ↔ Lat L.length (pe L) (vf p) := by
  have hz : ∀ n, n ≤ L.length → ∀ j, W ≤ j → leftF L E (vf p) n j = 0 := fun n => by
    induction n with
    | zero => intro _ j hj; exact vf_beyond (by omega)
    | succ n ih =>
      intro hn j hj
      show leftF L E (vf p) n j - _ * pe L n j = 0
      rw [ih (by omega) j hj, show pe L n j = 0 from vf_beyond (by rw [h.len n (by omega)]; exact hj)]
      omega
  unfold insideB leftP
  rw [List.all_map, List.all_eq_true]
  constructor
  · intro q
    refine lat_of_left (E := E) fun j => ?_
    by_cases hj : j < W
    · have := q j (List.mem_range.mpr (by omega))
      simpa using this
    · exact hz _ (Nat.le_refl _) j (by omega)
  · intro q j _
    have := left_zero h q j
    simpa using this
def REdge (ds : List PyData) (d : PyData) : Prop := ∃ (p : Pt) (e : Nat), ds = [ptD p] ∧ d = .int (e : Int) ∧ p.length ≤ 1000 ∧ (∀ j, j < e → vf p j = 0) ∧ vf p e ≠ 0
def RIsPt (ds : List PyData) (d : PyData) : Prop := ∃ (p : Pt), ds = [ptD p, .int (p.length : Int)] ∧ d = .bool true ∧ p.length ≤ 1000
def RIsStairs (ds : List PyData) (d : PyData) : Prop := ∃ (W : Nat) (L : List Pt) (E : Nat → Nat), ds = [.list (L.map ptD), .int (W : Int)] ∧ d = .bool true ∧ Hnf W L E ∧ W ≤ 100
structure LeftOk (W : Nat) (L : List Pt) (E : Nat → Nat) (p : Pt) (x y : Nat) : Prop where
  h : Hnf W L E
  len : p.length = W
  w : W ≤ 100
  bp : Bd x p
  by_ : ∀ i, i < L.length → Bd y (L.getD i [])
  bit : x + (W + 1) * (y + 2) < 100000000
def RLeft (ds es : List PyData) : Prop := ∃ (k : Bool) (W : Nat) (L : List Pt) (E : Nat → Nat) (p : Pt) (x y : Nat), ds = [.list (L.map ptD), seqD k (p.map .int)] ∧ es = (leftP L E p L.length).map .int ∧ LeftOk W L E p x y
def RInside (ds : List PyData) (d : PyData) : Prop := ∃ (k : Bool) (W : Nat) (L : List Pt) (E : Nat → Nat) (p : Pt) (x y : Nat), ds = [.list (L.map ptD), seqD k (p.map .int)] ∧ d = .bool (insideB L E p) ∧ LeftOk W L E p x y
theorem ints_flat : ∀ (p : List Int), PyData.canLayAll0 (p.map .int) = true ∧ PyData.depthAll (p.map .int) = 0
  | [] => ⟨rfl, rfl⟩
  | x :: p => by
    obtain ⟨a, b⟩ := ints_flat p
    rw [List.map_cons]
    constructor
    · simp [PyData.canLayAll0, PyData.canLay0, a]
    · simp [PyData.depthAll, PyData.depth, b]
theorem pts_flat : ∀ (S : List Pt), PyData.canLayAll0 (S.map ptD) = true ∧ PyData.depthAll (S.map ptD) ≤ 1
  | [] => ⟨rfl, Nat.zero_le _⟩
  | p :: S => by
    obtain ⟨a, b⟩ := pts_flat S
    obtain ⟨c, d⟩ := ints_flat p
    rw [List.map_cons]
    constructor
    · simp [PyData.canLayAll0, ptD, PyData.canLay0, a, c]
    · simp only [PyData.depthAll, ptD, PyData.depth, d]
      omega
theorem shaped_pt (p : Pt) : SeqAt.shaped (ptD p) = true := by
  obtain ⟨c, d⟩ := ints_flat p
  simp [SeqAt.shaped, ptD, PyData.canLay0, PyData.depth, c, d]
theorem shaped_pl (p : Pt) : SeqAt.shaped (plD p) = true := by
  obtain ⟨c, d⟩ := ints_flat p
  simp [SeqAt.shaped, plD, PyData.canLay0, PyData.depth, c, d]
theorem shaped_pts (S : List Pt) : SeqAt.shaped (.list (S.map ptD)) = true := by
  obtain ⟨c, d⟩ := pts_flat S
  have e : (PyData.list (S.map ptD)).depth ≤ 64 := by
    rw [PyData.depth]
    omega
  simp [SeqAt.shaped, PyData.canLay0, c, e]
theorem eqv_ints : ∀ (p q : List Int), PyData.eqvAll (p.map .int) (q.map .int) = decide (p = q)
  | [], [] => by simp [PyData.eqvAll]
  | [], y :: q => by simp [PyData.eqvAll]
  | x :: p, [] => by simp [PyData.eqvAll]
  | x :: p, y :: q => by
    rw [List.map_cons, List.map_cons, PyData.eqvAll, eqv_ints p q, PyData.eqv]
    by_cases h : x = y
    · simp [h]
    · simp [h]
theorem eqv_pt (p q : Pt) : PyData.eqv (ptD p) (ptD q) = decide (p = q) := by
  unfold ptD
  rw [PyData.eqv, eqv_ints]
theorem eqv_pl (p q : Pt) : PyData.eqv (plD p) (plD q) = decide (p = q) := by
  unfold plD
  rw [PyData.eqv, eqv_ints]
theorem eqv_ptsAll : ∀ (S T : List Pt), PyData.eqvAll (S.map ptD) (T.map ptD) = decide (S = T)
  | [], [] => by simp [PyData.eqvAll]
  | [], y :: q => by simp [PyData.eqvAll]
  | x :: p, [] => by simp [PyData.eqvAll]
  | x :: p, y :: q => by
    rw [List.map_cons, List.map_cons, PyData.eqvAll, eqv_ptsAll p q, eqv_pt]
    by_cases h : x = y
    · simp [h]
    · simp [h]
theorem eqv_pts (S T : List Pt) : PyData.eqv (.list (S.map ptD)) (.list (T.map ptD)) = decide (S = T) := by
  rw [PyData.eqv, eqv_ptsAll]
def spLaw (K : PySem.W.Frag) : Sp := fun vs H Q _ => ∃ (a : Addr) (ns : List Int), vs = [.ref a] ∧ Scr K H (.ref a) ns ∧ ns.length ≤ 63 ∧ ∀ H', Q (.bl true) H'
def spStairs (C : Addr) (K : PySem.W.Frag) : Sp := fun vs H Q _ => ∃ a W b S, vs = [.ref a] ∧ FieldAt C K H a W S ∧ Good W b S ∧ ∀ p xs H2, H p = none → Ex H H2 → H2 p = some (.lst xs) → DdAll K H2 xs ((stairP W S).map ptD) → Q (.ref p) H2
section
variable {K : PySem.W.Frag} {σ : L2.St} {H : Hp} {C : Addr} {E : XK}
theorem ef_stairs {i : Nat} {a : Addr} {W b : Nat} {S : List Pt} (hf : FieldAt C K H a W S) (hg : Good W b S) (h : σ[i]? = some (some (.ref a))) : EvF K (tCall (spStairs C K) [] E (tCons (tVar i) tNil)) σ H ((stairP W S).map ptD) := fun H1 e Q q =>
  ⟨_, h, a, W, b, S, rfl, hf.up e, hg, q⟩
theorem er_stepsZ {x : V} {ns : List Int} {ix W most p : Nat} {z : Int} {great : Bool} {tw tm tg : TE} (hz : z = (p : Int)) (hx : Scr K H x ns) (hn : ns.length ≤ 1000) (h1 : σ[ix]? = some (some x)) (hr : EvDs K (tCons tw (tCons tm (tCons tg tNil))) σ H [.int (W : Int), .int (most : Int), .bool great]) (hW : W ≤ 100) (hm : most ≤ 100) :
    EvR (tCall (spSteps K) [] E (tCons (tVar ix) (tCons (tLst (tCons (tC (.int z)) tNil)) (tCons tw (tCons tm (tCons tg tNil)))))) σ H (fun v H' => ∃ l xs S, v = .ref l ∧ Ex H H' ∧ H l = none ∧ H' l = some (.lst xs) ∧ DdAll K H' xs (S.map ptD) ∧ LSteps W most great S) := fun Q q => by
  subst hz
  refine ⟨x, h1, ?_⟩
  refine ⟨Evl.sz_of (by simp), fun sp hsp => ?_⟩
  have e1 : Ex H (upd H sp (.lst [.int (p : Int)])) := ex_new hsp
  refine hr _ e1 _ fun vs H2 e2 hv => ?_
  obtain ⟨a, b, c, rfl, ha, hb, hc⟩ := dd3 hv
  obtain rfl := dp_int ha
  obtain rfl := dp_int hb
  obtain rfl := dp_bl hc
  have h2 : H2 sp = some (.lst [.int (p : Int)]) := e2 sp _ upd_same
  refine ⟨x, sp, ns, p, W, most, great, rfl, hx.up (ex_tr e1 e2), hn, h2, hW, hm, fun l xs S H' p' hl e3 h3 hl' hd hS => ?_⟩
  refine q _ _ ⟨l, xs, S, rfl, fun b o hb => ?_, ex_back (ex_tr e1 e2) hl, hl', hd, hS⟩
  exact e3 b o (ex_tr e1 e2 b o hb) (ne_of_none hb hsp)
theorem er_steps {x : V} {ns : List Int} {ix W most : Nat} {great : Bool} {tw tm tg : TE} (hx : Scr K H x ns) (hn : ns.length ≤ 1000) (h1 : σ[ix]? = some (some x)) (hr : EvDs K (tCons tw (tCons tm (tCons tg tNil))) σ H [.int (W : Int), .int (most : Int), .bool great]) (hW : W ≤ 100) (hm : most ≤ 100) :
    EvR (tCall (spSteps K) [] E (tCons (tVar ix) (tCons (tLst (tCons (tC (.int 1)) tNil)) (tCons tw (tCons tm (tCons tg tNil)))))) σ H (fun v H' => ∃ l xs S, v = .ref l ∧ Ex H H' ∧ H l = none ∧ H' l = some (.lst xs) ∧ DdAll K H' xs (S.map ptD) ∧ LSteps W most great S) := er_stepsZ (p := 1) rfl hx hn h1 hr hW hm
theorem er_stepsV {x : V} {ns : List Int} {ix io W most p : Nat} {sp : Addr} {great : Bool} {tw tm tg : TE} (hx : Scr K H x ns) (hn : ns.length ≤ 1000) (h1 : σ[ix]? = some (some x)) (ho : σ[io]? = some (some (.ref sp))) (hs : H sp = some (.lst [.int (p : Int)])) (hr : EvDs K (tCons tw (tCons tm (tCons tg tNil))) σ H [.int (W : Int), .int (most : Int), .bool great]) (hW : W ≤ 100) (hm : most ≤ 100) :
    EvR (tCall (spSteps K) [] E (tCons (tVar ix) (tCons (tVar io) (tCons tw (tCons tm (tCons tg tNil)))))) σ H (fun v H' => ∃ l xs S p', v = .ref l ∧ Ex1 sp H H' ∧ H' sp = some (.lst [.int ((p' : Nat) : Int)]) ∧ H l = none ∧ H' l = some (.lst xs) ∧ DdAll K H' xs (S.map ptD) ∧ LSteps W most great S) := fun Q q => by
  refine ⟨x, h1, _, ho, ?_⟩
  refine hr _ ex_refl _ fun vs H2 e2 hv => ?_
  obtain ⟨a, b, c, rfl, ha, hb, hc⟩ := dd3 hv
  obtain rfl := dp_int ha
  obtain rfl := dp_int hb
  obtain rfl := dp_bl hc
  refine ⟨x, sp, ns, p, W, most, great, rfl, hx.up e2, hn, e2 sp _ hs, hW, hm, fun l xs S H' p' hl e3 h3 hl' hd hS => ?_⟩
  exact q _ _ ⟨l, xs, S, p', rfl, ex1_tr (ex1_of e2) e3, h3, ex_back e2 hl, hl', hd, hS⟩
end
theorem xs_up {b b' : Nat} (h : b ≤ b') : ∀ c, xs b c ≤ xs b' c
  | 0 => h
  | c + 1 => by
    have := xs_up h c
    show 6 * xs b c + 4 ≤ 6 * xs b' c + 4
    omega
theorem LSteps.good {W most : Nat} {great : Bool} {S : List Pt} (h : LSteps W most great S) (hW : W ≤ 4) (hm : most ≤ 20) : Good W 50 S := by
  refine ⟨h.ok (fun _ => by omega) (fun _ => by omega), by have := h.n; omega, by omega, ?_, ?_⟩
  · have := xs_mono 50 hW
    have e : xs 50 4 = 65836 := by decide
    omega
  · have := ys_mono 50 hW
    have e : ys 50 4 = 78998 := by decide
    omega
theorem ys4 {W : Nat} (hW : W ≤ 4) : ys 50 W ≤ 78998 := by
  have := ys_mono 50 hW
  have e : ys 50 4 = 78998 := by decide
  omega
theorem LSteps.fok {W most : Nat} {great : Bool} {S : List Pt} (h : LSteps W most great S) (h1 : 1 ≤ W) (hW : W ≤ 4) (hm : most ≤ 6) : FOk W S := ⟨h1, hW, by have := h.n; omega, h.len⟩
theorem left_of_step {W b : Nat} {S : List Pt} {E : Nat → Nat} (h : StepsOk W b S) (hE : Hnf W (stairP W S) E) {k : Nat} (hk : k < S.length) : insideB (stairP W S) E (S.getD k []) = true :=
  (insideB_iff hE (h.len k hk)).mpr ((stairP_lat h _).mpr (Lat.mem (g := pe S) hk))
theorem leftOk_of {W : Nat} {S : List Pt} {E : Nat → Nat} {p : Pt} {x : Nat} (h : StepsOk W 50 S) (hE : Hnf W (stairP W S) E) (hW : W ≤ 4) (hp : p.length = W) (hb : Bd x p) (hx : x ≤ 1000000) : LeftOk W (stairP W S) E p x (ys 50 W + 1) :=
  ⟨hE, hp, by omega, hb, fun i hi => stairP_bd h hi, by
    have := ys4 hW
    have : (W + 1) * (ys 50 W + 1 + 2) ≤ 5 * (ys 50 W + 1 + 2) := Nat.mul_le_mul_right _ (by omega)
    omega⟩
end SF
namespace SF
open PySem PySem.Spec PyProof.Rows L2
theorem lat_comb {n : Nat} {g : Nat → Nat → Int} {f : Nat → Int} (h : Lat n g f) : ∃ c : Nat → Int, ∀ j, f j = sumN n fun i => c i * g i j := by
  induction h with
  | zero => exact ⟨fun _ => 0, fun j => (sumN_zero fun i _ => Int.zero_mul _).symm⟩
  | @add f k c hk hf ih =>
    obtain ⟨d, hd⟩ := ih
    refine ⟨fun i => d i - (-c) * (if i < n ∧ i = k then (1 : Int) else 0), fun j => ?_⟩
    rw [sumN_lin, sumN_one (s := fun i => g i j) hk]
    show f j + c * g k j = _
    rw [hd j]
    have : -c * g k j = -(c * g k j) := Int.neg_mul _ _
    omega
theorem comb_lat {n : Nat} {g : Nat → Nat → Int} (c : Nat → Int) : ∀ m, m ≤ n → Lat n g (fun j => sumN m fun i => c i * g i j)
  | 0, _ => Lat.zero
  | m + 1, h => (comb_lat c m (by omega)).add m (c m) (by omega)
theorem lead_edge {W : Nat} {L : List Pt} {E : Nat → Nat} (h : Hnf W L E) {f : Nat → Int} {e : Nat} (hf : Lat L.length (pe L) f) (h0 : ∀ j, j < e → f j = 0) (he : f e ≠ 0) : ∃ i, i < L.length ∧ E i = e ∧ pe L i e ∣ f e := by
  obtain ⟨c, hc⟩ := lat_comb hf
  have first : ∀ m, m ≤ L.length → (∀ i, i < m → c i = 0) ∨ ∃ i, i < m ∧ c i ≠ 0 ∧ ∀ k, k < i → c k = 0 := fun m => by
    induction m with
    | zero => intro _; exact .inl fun i hi => absurd hi (Nat.not_lt_zero _)
    | succ m ih =>
      intro hm
      rcases ih (by omega) with a | ⟨i, h1, h2, h3⟩
      · by_cases z : c m = 0
        · exact .inl fun i hi => by
            by_cases q : i < m
            · exact a i q
            · have q : i = m := by omega
              rw [q]; exact z
        · exact .inr ⟨m, by omega, z, a⟩
      · exact .inr ⟨i, by omega, h2, h3⟩
  rcases first L.length (Nat.le_refl _) with a | ⟨i, h1, h2, h3⟩
  · exact absurd ((hc e).trans (sumN_zero fun i hi => by rw [a i hi, Int.zero_mul])) he
  · have low : ∀ j, j < E i → f j = 0 := fun j hj => by
      rw [hc]
      refine sumN_zero fun k hk => ?_
      by_cases q : k < i
      · rw [h3 k q, Int.zero_mul]
      · have : j < E k := by
          by_cases z : k = i
          · rw [z]; exact hj
          · have := h.mono i k (by omega) hk
            omega
        rw [h.zero k j hk this, Int.mul_zero]
    have v : f (E i) = c i * pe L i (E i) := by
      rw [hc]
      have : ∀ m, m ≤ L.length → sumN m (fun k => c k * pe L k (E i)) = if i < m then c i * pe L i (E i) else 0 := fun m => by
        induction m with
        | zero => intro _; rw [if_neg (by omega)]; rfl
        | succ m ihm =>
          intro hm
          show sumN m _ + c m * pe L m (E i) = _
          rw [ihm (by omega)]
          by_cases a : i < m
          · rw [if_pos a, if_pos (by omega), h.zero m (E i) (by omega) (h.mono i m a (by omega))]
            omega
          · rw [if_neg a]
            by_cases b : i = m
            · subst b
              rw [if_pos (by omega)]; omega
            · rw [if_neg (by omega), h3 m (by omega)]
              omega
      rw [this L.length (Nat.le_refl _), if_pos h1]
    have hp := h.pos i h1
    have vn : f (E i) ≠ 0 := by
      rw [v]
      exact Int.mul_ne_zero h2 (by omega)
    have ee : E i = e := by
      rcases Nat.lt_trichotomy (E i) e with q | q | q
      · exact absurd (h0 _ q) vn
      · exact q
      · exact absurd (low e q) he
    refine ⟨i, h1, ee, ?_⟩
    rw [← ee, v]
    exact Int.dvd_mul_left _ _
theorem hnf_edges {W : Nat} {L L' : List Pt} {E E' : Nat → Nat} (h : Hnf W L E) (h' : Hnf W L' E') (s : SameLat L.length (pe L) L'.length (pe L')) : ∀ i, i < L.length → i < L'.length ∧ E' i = E i := by
  have there : ∀ i, i < L.length → ∃ k, k < L'.length ∧ E' k = E i := fun i hi => by
    obtain ⟨k, h1, h2, _⟩ := lead_edge h' (f := pe L i) (e := E i) ((s _).mp (Lat.mem hi)) (fun j hj => h.zero i j hi hj) (by have := h.pos i hi; omega)
    exact ⟨k, h1, h2⟩
  have back : ∀ i, i < L'.length → ∃ k, k < L.length ∧ E k = E' i := fun i hi => by
    obtain ⟨k, h1, h2, _⟩ := lead_edge h (f := pe L' i) (e := E' i) ((s _).mpr (Lat.mem hi)) (fun j hj => h'.zero i j hi hj) (by have := h'.pos i hi; omega)
    exact ⟨k, h1, h2⟩
  intro i
  induction i using Nat.strongRecOn with
  | _ i ih =>
    intro hi
    obtain ⟨k, hk, ek⟩ := there i hi
    have ge : i ≤ k := by
      rcases Nat.lt_or_ge k i with q | q
      · have := (ih k q (by omega)).2
        have := h.mono k i q hi
        omega
      · exact q
    refine ⟨by omega, ?_⟩
    rcases Nat.lt_or_ge i k with q | q
    · exfalso
      obtain ⟨m, hm, em⟩ := back i (by omega)
      have a := h'.mono i k q hk
      have lt : m < i := by
        rcases Nat.lt_or_ge m i with z | z
        · exact z
        · by_cases zz : m = i
          · rw [zz] at em; omega
          · have := h.mono i m (by omega) hm
            omega
      have b := (ih m lt hm).2
      have c := h'.mono m i lt (by omega)
      omega
    · have : k = i := by omega
      rw [← this]
      rw [← this] at ek
      exact ek
theorem SameLat.symm {n m : Nat} {g g' : Nat → Nat → Int} (h : SameLat n g m g') : SameLat m g' n g := fun f => (h f).symm
theorem SameLat.trans {n m k : Nat} {g g' g'' : Nat → Nat → Int} (h : SameLat n g m g') (h2 : SameLat m g' k g'') : SameLat n g k g'' := fun f => (h f).trans (h2 f)
theorem hnf_uniq {W : Nat} {L L' : List Pt} {E E' : Nat → Nat} (h : Hnf W L E) (h' : Hnf W L' E') (s : SameLat L.length (pe L) L'.length (pe L')) : L = L' := by
  have e1 := hnf_edges h h' s
  have e2 := hnf_edges h' h s.symm
  have hl : L.length = L'.length := by
    rcases Nat.lt_trichotomy L.length L'.length with q | q | q
    · exact absurd (e2 L.length q).1 (Nat.lt_irrefl _)
    · exact q
    · exact absurd (e1 L'.length q).1 (Nat.lt_irrefl _)
  have hd : ∀ i, i < L.length → pe L i (E i) = pe L' i (E i) := fun i hi => by
    have ee := (e1 i hi).2
    obtain ⟨k, h1, h2, h3⟩ := lead_edge h' (f := pe L i) (e := E i) ((s _).mp (Lat.mem hi)) (fun j hj => h.zero i j hi hj) (by have := h.pos i hi; omega)
    obtain ⟨m, g1, g2, g3⟩ := lead_edge h (f := pe L' i) (e := E i) ((s _).mpr (Lat.mem (by omega))) (fun j hj => h'.zero i j (by omega) (by omega)) (by have := h'.pos i (by omega); rw [ee] at this; omega)
    have ki : k = i := by
      rcases Nat.lt_trichotomy k i with q | q | q
      · have := h'.mono k i q (by omega); omega
      · exact q
      · have := h'.mono i k q h1; omega
    have mi : m = i := by
      rcases Nat.lt_trichotomy m i with q | q | q
      · have := h.mono m i q hi; omega
      · exact q
      · have := h.mono i m q g1; omega
    subst ki
    rw [mi] at g3
    have p1 := h.pos k hi
    have p2 := h'.pos k (by omega)
    rw [ee] at p2
    exact Int.dvd_antisymm (by omega) (by omega) g3 h3
  refine List.ext_getElem hl fun i hi hi' => ?_
  have z := red_zero h (q := fun j => pe L i j - pe L' i j) ((Lat.mem hi).minus ((s _).mpr (Lat.mem hi'))) fun k hk => by
    have ee := (e1 k hk).2
    have pk := h.pos k hk
    have dk := hd k hk
    show (pe L i (E k) - pe L' i (E k)).natAbs < _
    rcases Nat.lt_trichotomy k i with q | q | q
    · rw [h.zero i (E k) hi (h.mono k i q hi), h'.zero i (E k) hi' (by rw [← ee]; exact h'.mono k i q hi')]
      omega
    · subst q
      omega
    · have r1 := h.red i k q hk
      have r2 := h'.red i k q (by omega)
      rw [ee] at r2
      omega
  have hg : ∀ (M : List Pt) (hM : i < M.length), M.getD i [] = M[i] := fun M hM => by rw [List.getD_eq_getElem?_getD, List.getElem?_eq_getElem hM]; rfl
  have l1 := h.len i hi
  have l2 := h'.len i hi'
  rw [← hg L hi, ← hg L' hi']
  refine pt_ext (by rw [l1, l2]) fun j _ => ?_
  have := z j
  unfold pe at this
  omega
abbrev InL (S : List Pt) (p : Pt) : Prop := Lat S.length (pe S) (vf p)
abbrev SameL (S T : List Pt) : Prop := SameLat S.length (pe S) T.length (pe T)
theorem inl_mem {S : List Pt} {p : Pt} (h : p ∈ S) : InL S p := by
  obtain ⟨i, hi, rfl⟩ := List.mem_iff_getElem.mp h
  refine (Lat.mem (g := pe S) hi).of fun j => ?_
  unfold pe
  rw [List.getD_eq_getElem?_getD, List.getElem?_eq_getElem hi]; rfl
theorem inl_sub {S T : List Pt} (h : ∀ p ∈ S, InL T p) {f : Nat → Int} (hf : Lat S.length (pe S) f) : Lat T.length (pe T) f := Lat.sub (fun k hk => (h (S.getD k []) (by rw [List.getD_eq_getElem?_getD, List.getElem?_eq_getElem hk]; exact List.getElem_mem hk))) hf
theorem sameL_of {S T : List Pt} (h : ∀ p ∈ S, InL T p) (h' : ∀ p ∈ T, InL S p) : SameL S T := fun f => ⟨inl_sub h, inl_sub h'⟩
theorem inl_zero {S : List Pt} {p : Pt} (h : ∀ j, vf p j = 0) : InL S p := Lat.zero.of fun j => (h j).symm
theorem sameL_reverse (S : List Pt) : SameL S S.reverse := sameL_of (fun p hp => inl_mem (List.mem_reverse.mpr hp)) fun p hp => inl_mem (List.mem_reverse.mp hp)
theorem sameL_set {S : List Pt} {a : Nat} {q p : Pt} (ha : S[a]? = some p) (hq : InL S q) (hp : InL (S.set a q) p) : SameL S (S.set a q) := by
  refine sameL_of (fun r hr => ?_) fun r hr => ?_
  · obtain ⟨i, hi, rfl⟩ := List.mem_iff_getElem.mp hr
    by_cases z : i = a
    · subst z
      rw [List.getElem?_eq_getElem hi] at ha
      rw [Option.some.inj ha]
      exact hp
    · refine inl_mem (List.mem_iff_getElem?.mpr ⟨i, ?_⟩)
      rw [List.getElem?_set_ne (fun x => z x.symm)]
      exact List.getElem?_eq_getElem hi
  · rcases List.mem_or_eq_of_mem_set hr with h | h
    · exact inl_mem h
    · rw [h]; exact hq
theorem sameL_more {S T : List Pt} {q : Pt} (h : ∀ p ∈ S, p ∈ T) (h' : ∀ p ∈ T, p ∈ S ∨ p = q) (hq : InL S q) : SameL S T := sameL_of (fun p hp => inl_mem (h p hp)) fun p hp => (h' p hp).elim inl_mem fun e => e ▸ hq
theorem stairP_uniq {W b b' : Nat} {S T : List Pt} (h : StepsOk W b S) (h' : StepsOk W b' T) (s : SameL S T) : stairP W S = stairP W T := by
  obtain ⟨E, hE⟩ := stairP_hnf h
  obtain ⟨E', hE'⟩ := stairP_hnf h'
  exact hnf_uniq hE hE' ((stairP_lat h).trans (s.trans (stairP_lat h').symm))
theorem stairP_eq_iff {W b b' : Nat} {S T : List Pt} (h : StepsOk W b S) (h' : StepsOk W b' T) : stairP W S = stairP W T ↔ SameL S T := by
  refine ⟨fun e => ?_, stairP_uniq h h'⟩
  have a := stairP_lat h
  have c := stairP_lat h'
  rw [e] at a
  exact a.symm.trans c
def madeP (W : Nat) (S : List Pt) (cs : List Int) : Pt := (List.range W).map fun j => cmb S cs j
theorem madeP_len (W : Nat) (S : List Pt) (cs : List Int) : (madeP W S cs).length = W := by simp [madeP]
theorem madeP_vf {W : Nat} {S : List Pt} (hS : ∀ k, k < S.length → (S.getD k []).length = W) (cs : List Int) (j : Nat) : vf (madeP W S cs) j = cmb S cs j := by
  by_cases hj : j < W
  · unfold madeP vf
    simp [List.getD_eq_getElem?_getD, hj]
  · rw [vf_beyond (by rw [madeP_len]; omega)]
    unfold cmb
    exact (sumN_zero fun i hi => by
      rw [show pe S i j = 0 from vf_beyond (by rw [hS i hi]; omega), Int.mul_zero]).symm
theorem inl_made {W : Nat} {S : List Pt} (hS : ∀ k, k < S.length → (S.getD k []).length = W) (cs : List Int) : InL S (madeP W S cs) := (comb_lat (fun i => vf cs i) S.length (Nat.le_refl _)).of fun j => (madeP_vf hS cs j).symm
def RMade (ds es : List PyData) : Prop := ∃ (W a b : Nat) (S : List Pt) (cs : List Int), ds = [.int (W : Int), .list (S.map ptD), .list (cs.map .int)] ∧ es = (madeP W S cs).map .int ∧ StepsOk W b S ∧ Bd a cs ∧ W ≤ 100 ∧ S.length ≤ 1000 ∧ a + b < 100000000
end SF
namespace SF
open PySem PySem.Spec PyProof.Rows L2 PySem.Calls PySem.W
section
variable {prog : Program} {w : World} {A : Around} {E : Value → Shared → Prop} {s : Shared} {it l : Addr} {items : Array Value}
theorem ext_rev {R : Result → Shared → Prop} (hh : A.handled = none) (hit : s.heap.IsRevIter it l ((items.size : Int) - 1)) (hl : s.heap.IsList l items) (hne : l ≠ it) (hn : items.size ≤ sizeLine) (S : Addr) (res : Value) (c₀ : Nat) (hSi : S ≠ it) (hSl : S ≠ l)
    (hS : s.heap.get? S = some { cls := .type "list", data := .seq #[] c₀ })
    (hR : ∀ h' tk acc' c', (∀ b o, b ≠ S → b ≠ it → s.heap.get? b = some o → h'.get? b = some o) → h'.get? S = some { cls := .type "list", dict := none, data := .seq acc' c', slots := #[] } →
      ItemsOf (fun i v => items[items.size - 1 - i]? = some v) acc' items.size → R (.ok (.ret res)) { s with heap := h', toks := tk }) :
    wpAny (model prog w) A.in1 (Builtin.List.listExtendWith (.ref S) (.ref it) res)
      (fun fin s' => match fin with | .done f => R (.ok f) s' | .again c' => c'.quiet = true ∧ codeAny (model prog w) A c' R s') (fun e s' => R (.error e) s') s := by
  have W := (Walks.listRev (prog := prog) (w := w) (A := A.in1) hh it l hne items).toS
  have hSf : S ∉ [it, l] := by simp only [List.mem_cons, List.not_mem_nil, or_false, not_or]; exact ⟨hSi, hSl⟩
  have hT : s.TypeIs (.ref it) "list_reverseiterator" := hit.typeIs
  have h1 : Builtin.List.listSameRef (.ref S) (.ref it) = false := by simp [Builtin.List.listSameRef, hSi]
  unfold Builtin.List.listExtendWith
  refine wpAny_bind (wpAny_typeOf hT ?_)
  rw [if_neg (by rw [h1]; decide)]
  refine wpAny_bind (wpAny_pyIter_revIter hit ?_)
  refine wpAny_bind (wpAny_holding ?_)
  unfold Builtin.List.listLengthHint
  refine wpAny_bind (wpAny_specialOf hT RT.nolen_lri ?_)
  show wpAny _ A.in1 (specialOf (Value.ref it) (Str.ofString "__length_hint__") >>= _) _ _ _
  refine wpAny_bind (wpAny_specialOf hT RT.hint_lri ?_)
  generalize hid : ("list_reverseiterator.__length_hint__" : String) = id0
  wp_delta
  rw [show splitId id0 = some ("list_reverseiterator", "__length_hint__") from by subst hid; decide +kernel]
  subst hid
  refine wpAny_bind (wpAny_isInstance (b := true) hT (by rw [isSubtype_type]; kernel_rfl) ?_)
  refine wpAny_pure ?_
  rw [if_neg (by decide)]
  have e0 : ((items.size : Nat) : Int) - 1 - ((0 : Nat) : Int) = (items.size : Int) - 1 := by omega
  refine wpAny_pure ⟨plainId_quiet F.plain_extend_loop _, codeAny_extend_loopS W hn _ hSf _ items.size 0 _ _ _ rfl (Nat.zero_le _) ⟨Nat.zero_le _, by rw [e0]; exact hit, hl⟩ hS (ItemsOf.nil _) fun s' acc' c' hm hS' hacc => ?_⟩
  rw [Moved.eq_with hm]
  refine hR s'.heap s'.toks acc' c' (fun b o hb hb2 e => hm.heap b o (fun hmem => ?_) e) hS' hacc
  rcases List.mem_cons.mp hmem with e' | hmem
  · exact hb e'
  · exact hb2 (List.mem_singleton.mp hmem)
theorem init_rev {R : Result → Shared → Prop} (hh : A.handled = none) (hit : s.heap.IsRevIter it l ((items.size : Int) - 1)) (hl : s.heap.IsList l items) (hne : l ≠ it) (hn : items.size ≤ sizeLine) (S : Addr) (hSi : S ≠ it) (hSl : S ≠ l)
    (hS : s.heap.get? S = some { cls := .type "list", data := .seq #[] })
    (hR : ∀ h' tk acc' c', (∀ b o, b ≠ S → b ≠ it → s.heap.get? b = some o → h'.get? b = some o) → h'.get? S = some { cls := .type "list", dict := none, data := .seq acc' c', slots := #[] } →
      ItemsOf (fun i v => items[items.size - 1 - i]? = some v) acc' items.size → R (.ok (.ret .none)) { s with heap := h', toks := tk }) :
    wpAny (model prog w) A.in1 (Builtin.«list.__init__» ⟨[.ref S, .ref it], []⟩)
      (fun fin s' => match fin with | .done f => R (.ok f) s' | .again c' => c'.quiet = true ∧ codeAny (model prog w) A c' R s') (fun e s' => R (.error e) s') s := by
  show wpAny _ A.in1 (do let old ← Builtin.List.listItems (.ref S); Builtin.List.listUpdate (.ref S) (fun _ => #[]); letGo old.toList.reverse; Builtin.List.listExtendWith (.ref S) (.ref it) .none) _ _ s
  refine wpAny_bind ?_
  unfold Builtin.List.listItems
  refine wpAny_bind (wpAny_seqItems hS rfl (wpAny_pure ?_))
  show wpAny _ A.in1 (updateSeq S (fun _ => #[]) >>= fun _ => letGo (#[] : Array Value).toList.reverse >>= fun _ => Builtin.List.listExtendWith (.ref S) (.ref it) .none) _ _ s
  refine wpAny_bind (wpAny_updateSeq hS rfl ?_)
  have hS₂ := Heap.get?_update_self (Obj.mapSeq (fun _ => (#[] : Array Value))) hS rfl
  have oth : ∀ b o, b ≠ S → s.heap.get? b = some o → (s.heap.update S (Obj.mapSeq (fun _ => (#[] : Array Value)))).get? b = some o :=
    fun b o hb e => (Heap.get?_update_other _ _ (Ne.symm hb)).trans e
  refine wpAny_bind (wpAny_letGo ?_)
  refine ext_rev (s := { s with heap := s.heap.update S (Obj.mapSeq (fun _ => (#[] : Array Value))) }) hh (hit.at fun o e => oth it o (Ne.symm hSi) e) (hl.at fun o e => oth l o (Ne.symm hSl) e) hne hn S .none _ hSi hSl hS₂ fun h' tk acc' c' hk hS' hacc => ?_
  exact hR h' tk acc' c' (fun b o hb hb2 e => hk b o hb hb2 (oth b o hb e)) hS' hacc
theorem call_list_rev {Q : Value → Shared → Prop} (hh : A.handled = none) (hit : s.heap.IsRevIter it l ((items.size : Int) - 1)) (hl : s.heap.IsList l items) (hne : l ≠ it) (hn : items.size ≤ sizeLine)
    (hQ : ∀ h' tk acc' c', (∀ b o, b ≠ it → s.heap.get? b = some o → h'.get? b = some o) →
      h'.get? s.heap.objs.size = some { cls := .type "list", dict := none, data := .seq acc' c', slots := #[] } → ItemsOf (fun i v => items[items.size - 1 - i]? = some v) acc' items.size → Q (.ref s.heap.objs.size) { s with heap := h', toks := tk }) :
    wpAny (model prog w) A (call (.type "list") [.ref it]) Q E s := by
  obtain ⟨oi, hoi, _⟩ := id hit
  obtain ⟨ol, hol, _⟩ := id hl
  have hSi : s.heap.objs.size ≠ it := Nat.ne_of_gt (Heap.lt_size hoi)
  have hSl : s.heap.objs.size ≠ l := Nat.ne_of_gt (Heap.lt_size hol)
  refine callType_codes (Q₁ := fun obj s₁ => obj = .ref s.heap.objs.size ∧ s₁ = { s with heap := s.heap.push { cls := .type "list", data := .seq #[] } }) F.called_list (F.typeCall_list_1 _) F.entry_list_init
    (code_list_new _ ⟨rfl, rfl⟩) fun obj s₁ h₁ => ?_
  obtain ⟨rfl, rfl⟩ := h₁
  have hS : (s.heap.push { cls := .type "list", data := .seq #[] }).get? s.heap.objs.size = some { cls := .type "list", data := .seq #[] } := Heap.get?_push_size _ rfl
  refine ⟨⟨_, hS, rfl⟩, F.args_list_init_2 _ _, init_rev (A := A.in1) (s := { s with heap := s.heap.push { cls := .type "list", data := .seq #[] } }) hh (hit.at fun o e => Heap.get?_push_of_some _ e) (hl.push _) hne hn _ hSi hSl hS fun h' tk acc' c' hk hS' hacc => ?_⟩
  exact ⟨rfl, hQ h' tk acc' c' (fun b o hb e => hk b o (Nat.ne_of_lt (Heap.lt_size e)) hb (Heap.get?_push_of_some _ e)) hS' hacc⟩
end
def tListRev (K : PySem.W.Frag) (te : TE) : TE := fun σ H Q => te σ H fun v H1 => ∃ (a : Addr) (xs : List V), v = .ref a ∧ SqL K H1 a xs ∧ ∀ q, H1 q = none → Q (.ref q) (upd H1 q (.lst xs.reverse))
section
variable {X : Cx} (K : PySem.W.Frag)
theorem pe_listRev {e : Expr} {te : TE} {p p2 pos pos2 : Pos} (hc : X.calm = true) (hg : Gl X "list") (hm : X.mg "list" = none) (hg2 : Gl X "reversed") (hm2 : X.mg "reversed" = none) (he : PE X e te) (h : X.K = K := by rfl)
    (hs : starEach [e] X.env = (false, eval e X.env) :: starEach [] X.env := by rfl)
    (hs2 : starEach [.Call (.Name "reversed" p2) [e] [] pos2] X.env = (false, eval (.Call (.Name "reversed" p2) [e] [] pos2) X.env) :: starEach [] X.env := by rfl) :
    PE X (.Call (.Name "list" p) [.Call (.Name "reversed" p2) [e] [] pos2] [] pos) (tListRev K te) := by
  subst h
  refine ⟨fun pins s σ H Q I h => ?_⟩
  refine Call_ (ld_blt I hg hm boot_list (PyProof.Rows.callWith_type1 (args_cons (Call_ (ld_blt I hg2 hm2 PyProof.Rows.boot_reversed (PyProof.Rows.callWith_type1 (args_cons (thn (he.run pins s σ H _ I h) fun u s1 ⟨v, H1, I1, r1, q1⟩ => args_nil ?_) hs) hs rfl))) hs2) hs2 rfl))
  obtain ⟨a, xs, ev, hq, q⟩ := q1
  subst ev
  obtain rfl : u = Value.ref a := r1
  obtain ⟨its, rv, p', hz⟩ := I1.list hq
  refine call_reversed_list p'.isList (args_nil ?_)
  have k0 : ∀ b o, s1.heap.get? b = some o → (s1.heap.push (revObj a ((its.toArray.size : Int) - 1))).get? b = some o := fun b o e => Heap.get?_push_of_some _ e
  have I2 : Inv X pins σ H1 { s1 with heap := s1.heap.push (revObj a ((its.toArray.size : Int) - 1)) } := I1.kept (t' := s1.toks) k0
  obtain ⟨f0, f1, f2, f3, f4, f5⟩ := I1.fpOk (H' := H1) (b := s1.heap.objs.size) (Nat.le_refl _) (I1.hok.fresh (Nat.le_refl _))
  have hl := p'.isList
  obtain ⟨ol, hol, _⟩ := id hl
  have hne : a ≠ s1.heap.objs.size := Nat.ne_of_lt (Heap.lt_size hol)
  have hn : its.toArray.size ≤ sizeLine := by rw [List.size_toArray, ← rv.length]; exact hz
  refine call_list_rev (s := { s1 with heap := s1.heap.push (revObj a ((its.toArray.size : Int) - 1)) }) (I1.ok.hd hc) ⟨_, Heap.get?_push_size _ rfl, rfl, rfl⟩ (hl.push _) hne hn fun h' tk acc c' hk hS' hi => ?_
  have hsz : s1.heap.objs.size ≤ (s1.heap.push (revObj a ((its.toArray.size : Int) - 1))).objs.size := by simp [Heap.push]
  refine ⟨.ref (s1.heap.push (revObj a ((its.toArray.size : Int) - 1))).objs.size, upd H1 (s1.heap.push (revObj a ((its.toArray.size : Int) - 1))).objs.size (.lst xs.reverse),
    I1.laid (t' := tk) (fun c o e => hk c o (Nat.ne_of_lt (Heap.lt_size e)) (Heap.get?_push_of_some _ e)) hsz (show ObjOk X.prog X.w _ _ _ (.lst xs.reverse) from ⟨by rw [List.length_reverse]; exact hz, acc.toList, c', RT.vals_rev rv hi, ?_⟩), rfl, q _ (I1.hok.fresh hsz)⟩
  rw [Array.toArray_toList]
  exact hS'
end
section
variable {K : PySem.W.Frag} {σ : L2.St} {H : Hp} {te : TE} {ds : List PyData}
theorem DdAll.rev {vs : List V} (h : DdAll K H vs ds) : DdAll K H vs.reverse ds.reverse := by
  have key : ∀ (vs : List V) (ds : List PyData), DdAll K H vs ds → DdAll K H vs.reverse ds.reverse := fun vs => by
    induction vs with
    | nil => intro ds h; cases h; exact .nil
    | cons v vs ih =>
      intro ds h
      cases h with
      | cons h1 h2 =>
        rw [List.reverse_cons, List.reverse_cons]
        exact (ih _ h2).app (.cons h1 .nil)
  exact key vs ds h
theorem ef_listRev (h : EvD K te σ H (.list ds)) : EvF K (tListRev K te) σ H ds.reverse := fun H1 e Q q =>
  h H1 e _ fun v H2 e2 hv => by
    obtain ⟨a, xs, rfl, hs, ha⟩ := dp_lst hv
    exact ⟨a, xs, rfl, hs, fun l hl => q l xs.reverse _ (ex_back e2 hl) (ex_tr e2 (ex_new hl)) upd_same (ha.rev.up (ex_new hl))⟩
end
end SF
namespace SF
open PySem PySem.Spec PyProof.Rows L2
def spAlike (C : Addr) (K : PySem.W.Frag) : Sp := fun vs H Q _ => ∃ a b W S T, vs = [.ref a, .ref b] ∧ FieldAt C K H a W S ∧ FieldAt C K H b W T ∧ ∀ H2, Ex H H2 → Q .non H2
def spSame (C : Addr) (K : PySem.W.Frag) : Sp := fun vs H Q _ => ∃ a b W k S T, vs = [.ref a, .ref b] ∧ FieldAt C K H a W S ∧ FieldAt C K H b W T ∧ Good W k S ∧ Good W k T ∧ ∀ H2, Ex H H2 → Q (.bl (decide (stairP W S = stairP W T))) H2
section
variable {K : PySem.W.Frag} {σ : L2.St} {H : Hp} {C : Addr} {E : XK} {ta tb : TE} {W k : Nat} {S T : List Pt}
theorem ev_field {i : Nat} {a : Addr} (hf : FieldAt C K H a W S) (h : σ[i]? = some (some (.ref a))) : ∀ H1, Ex H H1 → ∀ Q : VK, (∀ a H2, Ex H1 H2 → FieldAt C K H2 a W S → Q (.ref a) H2) → (tVar i) σ H1 Q := fun H1 e Q q => ⟨_, h, q a H1 ex_refl (hf.up e)⟩
def EvFd (C : Addr) (K : PySem.W.Frag) (te : TE) (σ : L2.St) (H : Hp) (W : Nat) (S : List Pt) : Prop := ∀ H1, Ex H H1 → ∀ Q : VK, (∀ a H2, Ex H1 H2 → FieldAt C K H2 a W S → Q (.ref a) H2) → te σ H1 Q
theorem EvM.fd (h : EvM C K ta σ H W S) : EvFd C K ta σ H W S := fun H1 e Q q => h H1 e Q fun a H2 _ => q a H2
theorem fd_var {i : Nat} {a : Addr} (hf : FieldAt C K H a W S) (h : σ[i]? = some (some (.ref a))) : EvFd C K (tVar i) σ H W S := fun H1 e Q q => ⟨_, h, q a H1 ex_refl (hf.up e)⟩
theorem ef_stairsM (h : EvFd C K ta σ H W S) (hg : Good W k S) : EvF K (tCall (spStairs C K) [] E (tCons ta tNil)) σ H ((stairP W S).map ptD) := fun H1 e Q q =>
  h H1 e _ fun a H2 e2 hF => ⟨a, W, k, S, by simp, hF, hg, fun p xs H3 hp e3 => q p xs H3 (ex_back e2 hp) (ex_tr e2 e3)⟩
theorem ev_alike (h : EvFd C K ta σ H W S) (h2 : EvFd C K tb σ H W T) : EvD K (tCall (spAlike C K) [] E (tCons ta (tCons tb tNil))) σ H .none := fun H1 e Q q =>
  h H1 e _ fun a H2 e2 hF => h2 H2 (ex_tr e e2) _ fun b H3 e3 hF2 => ⟨a, b, W, S, T, by simp, hF.up e3, hF2, fun H4 e4 => q _ H4 (ex_tr e2 (ex_tr e3 e4)) .non⟩
theorem ev_same (h : EvFd C K ta σ H W S) (h2 : EvFd C K tb σ H W T) (hg : Good W k S) (hg2 : Good W k T) : EvD K (tCall (spSame C K) [] E (tCons ta (tCons tb tNil))) σ H (.bool (decide (stairP W S = stairP W T))) := fun H1 e Q q =>
  h H1 e _ fun a H2 e2 hF => h2 H2 (ex_tr e e2) _ fun b H3 e3 hF2 => ⟨a, b, W, k, S, T, by simp, hF.up e3, hF2, hg, hg2, fun H4 e4 => q _ H4 (ex_tr e2 (ex_tr e3 e4)) (.bl _)⟩
end
section
variable {K : PySem.W.Frag} {a b : Bool}
theorem rd_isB : RD K rIsB (.bool a) (.bool b) (.bool (decide (a = b))) := fun x y H hx hy Q q => by
  cases hx; cases hy; exact ⟨a, b, rfl, rfl, q _ H ex_refl (.bl _)⟩
theorem rd_notB : RD K rNotB (.bool a) (.bool b) (.bool (!decide (a = b))) := fun x y H hx hy Q q => by
  cases hx; cases hy; exact ⟨a, b, rfl, rfl, q _ H ex_refl (.bl _)⟩
end
def rIns : V → List V → Hp → VK → Prop := fun x vs H Q => ∃ (l : Addr) (xs : List V) (i : Int) (y : V), x = .ref l ∧ vs = [.int i, y] ∧ H l = some (.lst xs) ∧ xs.length < sizeLine ∧ 0 ≤ i ∧ i < 2 ^ 63 ∧
    Q .non (upd H l (.lst (xs.take i.toNat ++ [y] ++ xs.drop i.toNat)))
theorem mt_ins {X : Cx} : MtR X "list.insert" rIns := mt_insert
theorem tupOAll_sub : ∀ {ds es : List PyData}, tupOAll ds = true → (∀ d ∈ es, d ∈ ds) → tupOAll es = true := fun {ds es} h hs => tupOAll_iff.mpr fun d hd => tupOAll_iff.mp h d (hs d hd)
theorem s_insO {K : PySem.W.Frag} {σ : L2.St} {H H0 : Hp} {te ti : TE} {D : Ends} {l : Addr} {io : Nat} {i : Int} {ds : List PyData} {d : PyData} (o : Own K H0 H l ds) (ho : σ[io]? = some (some (.ref l))) (hi : EvD K ti σ H (.int i)) (hi0 : 0 ≤ i) (hi1 : i < 2 ^ 63) (h : EvD K te σ H d) (hd : tupO d = true) (hz : ds.length < 100000)
    (k : ∀ H1, TEx H H1 → Own K H0 H1 l (ds.take i.toNat ++ [d] ++ ds.drop i.toNat) → D.nx σ H1) : tDrop (tBM K "list" rIns (tVar io) (tCons ti (tCons te tNil))) D σ H := by
  obtain ⟨xs0, h10, h20⟩ := o.at_
  refine ⟨_, ho, Or.inl ⟨rfl, xs0, SqL.of h10⟩, ?_⟩
  refine hi H ex_refl _ fun w H1 e1 hw => ?_
  obtain rfl := dp_int hw
  refine h H1 e1 _ fun v H2 e2 hv => ?_
  have o2 := o.up (ex_tr e1 e2)
  obtain ⟨xs, h1, h2⟩ := o2.at_
  refine ⟨l, xs, i, v, rfl, rfl, h1, Evl.sz_lt (by rw [h2.len]; exact hz), hi0, hi1, ?_⟩
  refine k _ (tex_tr (tex_of (ex_tr e1 e2)) (tex_upd h1)) (o2.put h1 (((h2.takeN _).app (.cons hv .nil)).app (h2.dropN _)) ?_)
  exact tupOAll_app (tupOAll_app (tupOAll_sub o.tup fun d hd => List.mem_of_mem_take hd) (by simp [tupOAll, hd])) (tupOAll_sub o.tup fun d hd => List.mem_of_mem_drop hd)
theorem sumN_bd {n : Nat} {f : Nat → Int} {B : Nat} (h : ∀ i, i < n → (f i).natAbs ≤ B) : (sumN n f).natAbs ≤ n * B := by
  induction n with
  | zero => exact Nat.zero_le _
  | succ n ih =>
    have a := ih fun i hi => h i (by omega)
    have b := h n (by omega)
    show (sumN n f + f n).natAbs ≤ _
    rw [Nat.succ_mul]
    omega
theorem cmb_bd {S : List Pt} {cs : List Int} {A B : Nat} (hc : ∀ i, i < S.length → (vf cs i).natAbs ≤ A) (hS : ∀ i, i < S.length → ∀ j, (pe S i j).natAbs ≤ B) (j : Nat) : (cmb S cs j).natAbs ≤ S.length * (A * B) :=
  sumN_bd fun i hi => by
    rw [Int.natAbs_mul]
    exact Nat.mul_le_mul (hc i hi) (hS i hi j)
theorem madeP_bd {W : Nat} {S : List Pt} {cs : List Int} {b : Nat} (h : ∀ j, j < W → (cmb S cs j).natAbs < 2 ^ b) : Bd b (madeP W S cs) := fun x hx => by
  obtain ⟨j, hj, rfl⟩ := List.mem_map.mp hx
  exact h j (List.mem_range.mp hj)
theorem cmb_two {p q : Pt} {x y : Int} (j : Nat) : cmb [p, q] [x, y] j = x * vf p j + y * vf q j := by
  show 0 + vf [x, y] 0 * pe [p, q] 0 j + vf [x, y] 1 * pe [p, q] 1 j = _
  show 0 + x * vf p j + y * vf q j = _
  omega
theorem stepsOk_mem {W b : Nat} {S : List Pt} (h : ∀ p ∈ S, p.length = W ∧ Bd b p) : StepsOk W b S := by
  have g : ∀ k, k < S.length → S.getD k [] ∈ S := fun k hk => by
    rw [List.getD_eq_getElem?_getD, List.getElem?_eq_getElem hk]; exact List.getElem_mem hk
  exact ⟨fun k hk => (h _ (g k hk)).1, fun k hk => (h _ (g k hk)).2⟩
theorem StepsOk.mem {W b : Nat} {S : List Pt} (h : StepsOk W b S) {p : Pt} (hp : p ∈ S) : p.length = W ∧ Bd b p := by
  obtain ⟨k, hk, rfl⟩ := List.mem_iff_getElem.mp hp
  have e : S.getD k [] = S[k] := by rw [List.getD_eq_getElem?_getD, List.getElem?_eq_getElem hk]; rfl
  rw [← e]
  exact ⟨h.len k hk, h.bd k hk⟩
theorem good4 {W : Nat} {S : List Pt} (h : StepsOk W 50 S) (hW : W ≤ 4) (hn : S.length ≤ 100) : Good W 50 S := by
  refine ⟨h, hn, by omega, ?_, ?_⟩
  · have := xs_mono 50 hW
    have e : xs 50 4 = 65836 := by decide
    omega
  · have := ys4 hW
    omega
theorem Bd.up {a b : Nat} {p : Pt} (h : Bd a p) (e : a ≤ b) : Bd b p := fun x hx => Nat.lt_of_lt_of_le (h x hx) (Nat.pow_le_pow_right (by omega) e)
end SF
namespace SF
open PySem PySem.Spec PyProof.Rows L2
def wdot (n : Nat) (p q : Nat → Int) : Int := sumN n fun j => p j * q j
theorem sumN_single {n k : Nat} {f : Nat → Int} (hk : k < n) (h : ∀ i, i < n → i ≠ k → f i = 0) : sumN n f = f k := by
  have : ∀ m, m ≤ n → sumN m f = if k < m then f k else 0 := fun m => by
    induction m with
    | zero => intro _; rw [if_neg (by omega)]; rfl
    | succ m ih =>
      intro hm
      show sumN m f + f m = _
      rw [ih (by omega)]
      by_cases a : k < m
      · rw [if_pos a, if_pos (by omega), h m (by omega) (by omega)]; omega
      · rw [if_neg a]
        by_cases b : m = k
        · rw [b, if_pos (by omega)]; omega
        · rw [if_neg (by omega), h m (by omega) b]; omega
  rw [this n (Nat.le_refl _), if_pos hk]
theorem wdot_comm (n : Nat) (p q : Nat → Int) : wdot n p q = wdot n q p := sumN_congr fun i _ => Int.mul_comm _ _
theorem wdot_lin {n : Nat} {p q r : Nat → Int} (m : Int) : wdot n p (fun j => q j - m * r j) = wdot n p q - m * wdot n p r := by
  rw [wdot_comm, wdot_comm n p q, wdot_comm n p r]
  exact sumN_lin m
theorem wdot_zero {n : Nat} {p : Nat → Int} : wdot n p (fun _ => 0) = 0 := sumN_zero fun i _ => Int.mul_zero _
theorem wdot_lat {W n : Nat} {g : Nat → Nat → Int} {w : Nat → Int} {m : Int} (h : ∀ k, k < n → m ∣ wdot W w (g k)) {f : Nat → Int} (hf : Lat n g f) : m ∣ wdot W w f := by
  induction hf with
  | zero => rw [wdot_zero]; exact Int.dvd_zero _
  | @add f k c hk hf ih =>
    have e : (fun j => f j + c * g k j) = fun j => f j - (-c) * g k j := funext fun j => by rw [Int.neg_mul]; omega
    rw [e, wdot_lin]
    exact Int.dvd_sub ih (Int.dvd_mul_of_dvd_right (h k hk))
def wtsN (L : List Pt) (E : Nat → Nat) (W c r : Nat) : Nat → (Nat → Int) × Int
  | 0 => (fun j => if j = c then 1 else 0, 1)
  | i + 1 => (fun j => pe L (r - 1 - i) (E (r - 1 - i)) * (wtsN L E W c r i).1 j - wdot W (wtsN L E W c r i).1 (pe L (r - 1 - i)) * (if j < W ∧ j = E (r - 1 - i) then (1 : Int) else 0), (wtsN L E W c r i).2 * pe L (r - 1 - i) (E (r - 1 - i)))
structure Upto {W : Nat} {L : List Pt} {E : Nat → Nat} (h : Hnf W L E) (c r : Nat) : Prop where
  le : r ≤ L.length
  iff : ∀ k, k < L.length → (k < r ↔ E k < c)
theorem Upto.zero {W : Nat} {L : List Pt} {E : Nat → Nat} (h : Hnf W L E) : Upto h 0 0 := ⟨Nat.zero_le _, fun k _ => by omega⟩
theorem Upto.next {W : Nat} {L : List Pt} {E : Nat → Nat} {h : Hnf W L E} {c r : Nat} (u : Upto h c r) (hr : r < L.length) (e : E r = c) : Upto h (c + 1) (r + 1) := ⟨hr, fun k hk => by
  have := u.iff k hk
  by_cases z : k = r
  · rw [z, e]; omega
  · constructor
    · intro _; have := this.mp (by omega); omega
    · intro q
      rcases Nat.lt_trichotomy k r with a | a | a
      · omega
      · omega
      · have := h.mono r k a hk; omega⟩
theorem Upto.skip {W : Nat} {L : List Pt} {E : Nat → Nat} {h : Hnf W L E} {c r : Nat} (u : Upto h c r) (e : ∀ k, k < L.length → E k ≠ c) : Upto h (c + 1) r := ⟨u.le, fun k hk => by
  have := u.iff k hk
  have := e k hk
  omega⟩
theorem Upto.here {W : Nat} {L : List Pt} {E : Nat → Nat} {h : Hnf W L E} {c r : Nat} (u : Upto h c r) {k : Nat} (hk : k < L.length) (e : E k = c) : k = r := by
  have a : ¬ k < r := fun q => by have := (u.iff k hk).mp q; omega
  rcases Nat.lt_trichotomy k r with q | q | q
  · exact absurd q a
  · exact q
  · have b : ¬ E r < c := fun z => by have := (u.iff r (by omega)).mpr z; omega
    have := h.mono r k q hk
    omega
structure WtsOk (L : List Pt) (E : Nat → Nat) (W c r i : Nat) (w : Nat → Int) (m : Int) : Prop where
  dot : ∀ k, r - i ≤ k → k < r → wdot W w (pe L k) = 0
  at_ : w c = m
  pos : 0 < m
  up : ∀ j, c < j → w j = 0
theorem wts_ok {W : Nat} {L : List Pt} {E : Nat → Nat} {h : Hnf W L E} {c r : Nat} (u : Upto h c r) (hc : c < W) : ∀ i, i ≤ r → WtsOk L E W c r i (wtsN L E W c r i).1 (wtsN L E W c r i).2
  | 0, _ => ⟨fun k h1 h2 => absurd h1 (by omega), by show (if c = c then (1 : Int) else 0) = 1; rw [if_pos rfl], by show (0 : Int) < 1; decide, fun j hj => by show (if j = c then (1 : Int) else 0) = 0; rw [if_neg (by omega)]⟩
  | i + 1, hi => by
    have ih := wts_ok u hc i (by omega)
    generalize hw : (wtsN L E W c r i).1 = w at ih
    generalize hm : (wtsN L E W c r i).2 = m at ih
    have ha : r - 1 - i < r := by omega
    generalize hA : r - 1 - i = a at ha
    have haL : a < L.length := by have := u.le; omega
    have hE := (u.iff a haL).mp ha
    have hd := h.pos a haL
    have hEW := h.lt a haL
    have e1 : (wtsN L E W c r (i + 1)).1 = fun j => pe L a (E a) * w j - wdot W w (pe L a) * (if j < W ∧ j = E a then (1 : Int) else 0) := by
      rw [← hw, ← hA]; rfl
    have e2 : (wtsN L E W c r (i + 1)).2 = m * pe L a (E a) := by rw [← hm, ← hA]; rfl
    rw [e1, e2]
    have dotv : ∀ q : Nat → Int, wdot W (fun j => pe L a (E a) * w j - wdot W w (pe L a) * (if j < W ∧ j = E a then (1 : Int) else 0)) q = pe L a (E a) * wdot W w q - wdot W w (pe L a) * q (E a) := fun q => by
      unfold wdot
      rw [sumN_lin, sumN_one hEW, sumN_mul]
    refine ⟨fun k h1 h2 => ?_, ?_, Int.mul_pos ih.pos hd, fun j hj => ?_⟩
    · rw [dotv]
      by_cases z : k = a
      · rw [z, Int.mul_comm]; omega
      · rw [ih.dot k (by omega) h2, h.zero k (E a) (by have := u.le; omega) (h.mono a k (by omega) (by have := u.le; omega))]
        omega
    · show pe L a (E a) * w c - _ * _ = _
      rw [if_neg (by omega), ih.at_, Int.mul_comm, Int.mul_zero, Int.sub_zero]
    · show pe L a (E a) * w j - _ * _ = 0
      rw [if_neg (by omega), ih.up j hj, Int.mul_zero, Int.mul_zero, Int.sub_zero]
theorem wts_rows {W : Nat} {L : List Pt} {E : Nat → Nat} {h : Hnf W L E} {c r : Nat} (u : Upto h c r) (hc : c < W) {w : Nat → Int} {m : Int} (hw : WtsOk L E W c r r w m) {k : Nat} (hk : k < L.length) : wdot W w (pe L k) = if E k = c then m * pe L k c else 0 := by
  by_cases z : k < r
  · rw [hw.dot k (by omega) z, if_neg (by have := (u.iff k hk).mp z; omega)]
  · have ge : ¬ E k < c := fun q => z ((u.iff k hk).mpr q)
    by_cases e : E k = c
    · rw [if_pos e, ← hw.at_]
      refine sumN_single hc fun i hi hic => ?_
      rcases Nat.lt_or_ge i c with q | q
      · rw [h.zero k i hk (by omega), Int.mul_zero]
      · rw [hw.up i (by omega), Int.zero_mul]
    · rw [if_neg e]
      refine sumN_zero fun i hi => ?_
      rcases Nat.lt_or_ge c i with q | q
      · rw [hw.up i q, Int.zero_mul]
      · rw [h.zero k i hk (by omega), Int.mul_zero]
theorem wts_left {W : Nat} {L : List Pt} {E : Nat → Nat} {c r : Nat} (hc : c < W) {w : Nat → Int} {m : Int} (hw : WtsOk L E W c r r w m) {left : Nat → Int} (h0 : ∀ j, j < c → left j = 0) : wdot W w left = m * left c := by
  rw [← hw.at_]
  refine sumN_single hc fun i hi hic => ?_
  rcases Nat.lt_or_ge i c with q | q
  · rw [h0 i q, Int.mul_zero]
  · rw [hw.up i (by omega), Int.zero_mul]
def Out (W : Nat) (S : List Pt) (p : Nat → Int) (w : Nat → Int) (m : Int) : Prop := 2 ≤ m ∧ (∀ k, k < S.length → m ∣ wdot W w (pe S k)) ∧ ¬ m ∣ wdot W w p
theorem Out.not {W : Nat} {S : List Pt} {p w : Nat → Int} {m : Int} (h : Out W S p w m) : ¬ Lat S.length (pe S) p := fun q => h.2.2 (wdot_lat h.2.1 q)
theorem Out.same {W : Nat} {S T : List Pt} {p w : Nat → Int} {m : Int} (h : Out W S p w m) (s : SameL S T) : Out W T p w m := ⟨h.1, fun k hk => wdot_lat h.2.1 ((s _).mpr (Lat.mem hk)), h.2.2⟩
theorem out_at {W : Nat} {L : List Pt} {E : Nat → Nat} {h : Hnf W L E} {c r : Nat} (u : Upto h c r) (hc : c < W) {w : Nat → Int} {m : Int} (hw : WtsOk L E W c r r w m) {p left : Nat → Int} (hl : Lat L.length (pe L) (fun j => p j - left j)) (h0 : ∀ j, j < c → left j = 0)
    (hr : r < L.length) (e : E r = c) (h1 : 0 < left c) (h2 : left c < pe L r c) : Out W L p w (m * pe L r c) := by
  have hm := hw.pos
  have all : ∀ k, k < L.length → m * pe L r c ∣ wdot W w (pe L k) := fun k hk => by
    rw [wts_rows u hc hw hk]
    by_cases z : E k = c
    · rw [if_pos z, u.here hk z]
      exact Int.dvd_refl _
    · rw [if_neg z]; exact Int.dvd_zero _
  refine ⟨?_, all, fun q => ?_⟩
  · have : 1 * 2 ≤ m * pe L r c := Int.mul_le_mul (by omega) (by omega) (by decide) (by omega)
    omega
  · have a := wdot_lat all hl
    have e2 : (fun j => p j - left j) = fun j => p j - 1 * left j := funext fun j => by rw [Int.one_mul]
    rw [e2, wdot_lin, wts_left hc hw h0, Int.one_mul] at a
    have b : m * pe L r c ∣ m * left c := by
      have := Int.dvd_sub q a
      rwa [show wdot W w p - (wdot W w p - m * left c) = m * left c by omega] at this
    have d : pe L r c ∣ left c := Int.dvd_of_mul_dvd_mul_left (by omega) b
    have := Int.le_of_dvd h1 d
    omega
theorem out_free {W : Nat} {L : List Pt} {E : Nat → Nat} {h : Hnf W L E} {c r : Nat} (u : Upto h c r) (hc : c < W) {w : Nat → Int} {m : Int} (hw : WtsOk L E W c r r w m) {p left : Nat → Int} (hl : Lat L.length (pe L) (fun j => p j - left j)) (h0 : ∀ j, j < c → left j = 0)
    (e : ∀ k, k < L.length → E k ≠ c) (h1 : left c ≠ 0) : Out W L p w ((wdot W w p).natAbs + 1) := by
  have hm := hw.pos
  have all : ∀ k, k < L.length → (0 : Int) ∣ wdot W w (pe L k) := fun k hk => by
    rw [wts_rows u hc hw hk, if_neg (e k hk)]
    exact Int.dvd_zero _
  have a := Int.zero_dvd.mp (wdot_lat all hl)
  have e2 : (fun j => p j - left j) = fun j => p j - 1 * left j := funext fun j => by rw [Int.one_mul]
  rw [e2, wdot_lin, wts_left hc hw h0, Int.one_mul] at a
  have b : wdot W w p ≠ 0 := by
    have : m * left c ≠ 0 := Int.mul_ne_zero (by omega) h1
    omega
  refine ⟨by omega, fun k hk => by rw [Int.zero_dvd.mp (all k hk)]; exact Int.dvd_zero _, fun q => ?_⟩
  have := Int.le_of_dvd (by omega) (Int.dvd_natAbs.mpr q)
  omega
theorem wdot_bd {W : Nat} {p q : Nat → Int} {A B : Nat} (hp : ∀ j, (p j).natAbs ≤ A) (hq : ∀ j, (q j).natAbs ≤ B) : (wdot W p q).natAbs ≤ W * (A * B) := sumN_bd fun i _ => by
  rw [Int.natAbs_mul]
  exact Nat.mul_le_mul (hp i) (hq i)
theorem wts_bd {W : Nat} {L : List Pt} {E : Nat → Nat} {c r y : Nat} (hr : r ≤ L.length) (hW : W ≤ 100) (hy : ∀ i, i < L.length → Bd y (L.getD i [])) : ∀ i, i ≤ r → (∀ j, ((wtsN L E W c r i).1 j).natAbs < 2 ^ (1 + i * (y + 7))) ∧ (wtsN L E W c r i).2.natAbs < 2 ^ (1 + i * (y + 7))
  | 0, _ => by
    have e : 2 ^ (1 + 0 * (y + 7)) = 2 := by rw [Nat.zero_mul]
    rw [e]
    refine ⟨fun j => ?_, by show (1 : Int).natAbs < 2; decide⟩
    show (if j = c then (1 : Int) else 0).natAbs < 2
    split <;> decide
  | i + 1, hi => by
    obtain ⟨a, b⟩ := wts_bd (E := E) (c := c) hr hW hy i (by omega)
    have hb : ∀ j, (pe L (r - 1 - i) j).natAbs ≤ 2 ^ y := fun j => Nat.le_of_lt (vf_bd (hy (r - 1 - i) (by omega)) j)
    have hd := wdot_bd (W := W) (fun j => Nat.le_of_lt (a j)) hb
    generalize hX : 2 ^ (1 + i * (y + 7)) = X at *
    have eX : 2 ^ (1 + (i + 1) * (y + 7)) = 128 * (X * 2 ^ y) := by
      rw [← hX, show 1 + (i + 1) * (y + 7) = 7 + ((1 + i * (y + 7)) + y) by rw [Nat.succ_mul]; omega, Nat.pow_add, Nat.pow_add 2 (1 + i * (y + 7))]
    have x0 : 0 < X * 2 ^ y := Nat.mul_pos (by rw [← hX]; exact Nat.two_pow_pos _) (Nat.two_pow_pos _)
    have hd2 : W * (X * 2 ^ y) ≤ 100 * (X * 2 ^ y) := Nat.mul_le_mul_right _ hW
    rw [eX]
    refine ⟨fun j => ?_, ?_⟩
    · show (pe L (r - 1 - i) (E (r - 1 - i)) * (wtsN L E W c r i).1 j - wdot W (wtsN L E W c r i).1 (pe L (r - 1 - i)) * (if j < W ∧ j = E (r - 1 - i) then (1 : Int) else 0)).natAbs < _
      have m1 : (pe L (r - 1 - i) (E (r - 1 - i)) * (wtsN L E W c r i).1 j).natAbs ≤ X * 2 ^ y := by
        rw [Int.natAbs_mul, Nat.mul_comm]
        exact Nat.mul_le_mul (Nat.le_of_lt (a j)) (hb _)
      split
      · rw [Int.mul_one]; omega
      · rw [Int.mul_zero, Int.sub_zero]; omega
    · show ((wtsN L E W c r i).2 * pe L (r - 1 - i) (E (r - 1 - i))).natAbs < _
      have m1 : ((wtsN L E W c r i).2 * pe L (r - 1 - i) (E (r - 1 - i))).natAbs ≤ X * 2 ^ y := by
        rw [Int.natAbs_mul]
        exact Nat.mul_le_mul (Nat.le_of_lt b) (hb _)
      omega
structure RowsOk (W : Nat) (S : List Pt) (R : List Row) (E : Nat → Nat) (y : Nat) : Prop where
  hnf : Hnf W (R.map (·.1)) E
  ct : ∀ k, k < R.length → (row R k).2.length = S.length
  cc : ∀ k, k < R.length → ∀ j, vf (row R k).1 j = cmb S (row R k).2 j
  b1 : ∀ k, k < R.length → Bd y (row R k).1
  b2 : ∀ k, k < R.length → Bd y (row R k).2
  lat : SameL (R.map (·.1)) S
theorem map_row {R : List Row} {k : Nat} (hk : k < R.length) : (R.map (·.1)).getD k [] = (row R k).1 := by
  rw [List.getD_eq_getElem?_getD, List.getElem?_map, row_get hk]; rfl
theorem rows_ok {W b : Nat} {S : List Pt} (h : StepsOk W b S) : ∃ E, RowsOk W S (stairRows W S) E (ys b W + 1) := by
  have ok := stOk_all h W
  obtain ⟨E, hE⟩ := stairP_hnf h
  have hl := stairP_len h
  obtain ⟨_, hEE⟩ := ok.ech
  have hd := hEE.dl
  have hlen : (stairRows W S).length = (stairN S W).2 := by rw [← hl]; unfold stairP; rw [List.length_map]
  have er : ∀ k, k < (stairRows W S).length → row (stairRows W S) k = row (stairN S W).1 k := fun k hk => by
    unfold row stairRows
    rw [List.getD_eq_getElem?_getD, List.getElem?_take_of_lt (by omega), ← List.getD_eq_getElem?_getD]
  exact ⟨E, hE, fun k hk => by rw [er k hk]; exact ok.shp.ct k (by omega), fun k hk j => by rw [er k hk]; exact ok.cc k (by omega) j, fun k hk => by rw [er k hk]; exact bd_of (ok.bdA k (Nat.zero_le _) (by omega)).1, fun k hk => by rw [er k hk]; exact bd_of (ok.bdA k (Nat.zero_le _) (by omega)).2, stairP_lat h⟩
def qF (L : List Pt) (E : Nat → Nat) (p : Nat → Int) (n : Nat) : Int := (leftF L E p n (E n)).fdiv (pe L n (E n))
def cntF (R : List Row) (E : Nat → Nat) (p : Nat → Int) : Nat → (Nat → Int)
  | 0 => fun _ => 0
  | n + 1 => fun i => cntF R E p n i + qF (R.map (·.1)) E p n * vf (row R n).2 i
theorem cnt_made {W : Nat} {S : List Pt} {R : List Row} {E : Nat → Nat} {y : Nat} (h : RowsOk W S R E y) (p : Nat → Int) : ∀ n, n ≤ R.length → ∀ j, (sumN S.length fun i => cntF R E p n i * pe S i j) + leftF (R.map (·.1)) E p n j = p j
  | 0, _, j => by
    have e : (sumN S.length fun i => cntF R E p 0 i * pe S i j) = 0 := sumN_zero fun i _ => Int.zero_mul _
    rw [e]
    show 0 + p j = p j
    omega
  | n + 1, hn, j => by
    have ih := cnt_made h p n (by omega) j
    have e : (sumN S.length fun i => cntF R E p (n + 1) i * pe S i j) = (sumN S.length fun i => cntF R E p n i * pe S i j) - (-qF (R.map (·.1)) E p n) * cmb S (row R n).2 j := by
      unfold cmb
      rw [← sumN_lin]
      exact sumN_congr fun i _ => by
        show (cntF R E p n i + _ * _) * _ = _
        rw [Int.neg_mul, Int.sub_neg]
    rw [e, ← h.cc n (by omega) j]
    show _ + (leftF (R.map (·.1)) E p n j - qF (R.map (·.1)) E p n * pe (R.map (·.1)) n j) = _
    have e2 : pe (R.map (·.1)) n j = vf (row R n).1 j := by unfold pe; rw [map_row (by omega)]
    rw [e2, Int.neg_mul]
    omega
theorem cnt_bd {W : Nat} {S : List Pt} {R : List Row} {E : Nat → Nat} {y x : Nat} (h : RowsOk W S R E y) {p : Nat → Int} (hp : ∀ j, (p j).natAbs < 2 ^ x) : ∀ n, n ≤ R.length → ∀ i, (cntF R E p n i).natAbs < 2 ^ (x + (n + 1) * (y + 3))
  | 0, _, i => by show (0 : Int).natAbs < _; exact Nat.two_pow_pos _
  | n + 1, hn, i => by
    have ih := cnt_bd h hp n (by omega) i
    have hL : n < (R.map (·.1)).length := by rw [List.length_map]; omega
    have lb := left_bds h.hnf hp (y := y) (fun k hk => by rw [List.length_map] at hk; rw [map_row hk]; exact h.b1 k hk) n (by omega) (E n)
    have hq := left_q (d := pe (R.map (·.1)) n (E n)) (by have := h.hnf.pos n hL; omega) lb
    have hr := vf_bd (h.b2 n (by omega)) i
    show (cntF R E p n i + qF (R.map (·.1)) E p n * vf (row R n).2 i).natAbs < _
    have m1 : (qF (R.map (·.1)) E p n * vf (row R n).2 i).natAbs ≤ 2 ^ (x + n * (y + 2) + 1) * 2 ^ y := by
      rw [Int.natAbs_mul]
      exact Nat.mul_le_mul (Nat.le_of_lt hq) (Nat.le_of_lt hr)
    rw [← Nat.pow_add] at m1
    have s1 : n * (y + 2) ≤ n * (y + 3) := Nat.mul_le_mul_left _ (by omega)
    have s2 : (n + 1) * (y + 3) = n * (y + 3) + y + 3 := by rw [Nat.succ_mul]; omega
    have s3 : (n + 1 + 1) * (y + 3) = n * (y + 3) + 2 * y + 6 := by rw [Nat.succ_mul, Nat.succ_mul]; omega
    have p1 : 2 ^ (x + n * (y + 2) + 1 + y) ≤ 2 ^ (x + n * (y + 3) + y + 3) := Nat.pow_le_pow_right (by omega) (by omega)
    have p2 : 2 * 2 ^ (x + n * (y + 3) + y + 3) ≤ 2 ^ (x + (n + 1 + 1) * (y + 3)) := by
      rw [s3, ← Nat.pow_succ']
      exact Nat.pow_le_pow_right (by omega) (by omega)
    rw [s2, show x + (n * (y + 3) + y + 3) = x + n * (y + 3) + y + 3 by omega] at ih
    omega
end SF
namespace SF
open PySem PySem.Spec PyProof.Rows L2
theorem givD_le {n r : Nat} {f : Nat → Bool} {v : Nat → PyData} (h : ∀ i, i < n → f i = decide (i < r)) (hr : r ≤ n) : givD n f v = (List.range r).map v := by
  have : ∀ m, m ≤ n → givD m f v = (List.range (min m r)).map v := fun m => by
    induction m with
    | zero => intro _; simp [givD]
    | succ m ih =>
      intro hm
      have ih := ih (by omega)
      have hf := h m (by omega)
      by_cases z : m < r
      · rw [givD_yes (by rw [hf]; simpa using z), ih, Nat.min_eq_left (by omega), Nat.min_eq_left (by omega), List.range_succ, List.map_append]
        rfl
      · rw [givD_no (by rw [hf]; simpa using z), ih, Nat.min_eq_right (by omega), Nat.min_eq_right (by omega)]
  rw [this n (Nat.le_refl _), Nat.min_eq_right hr]
theorem givD_nil {n : Nat} {f : Nat → Bool} {v : Nat → PyData} (h : ∀ i, i < n → f i = false) : givD n f v = [] := by
  rw [givD_le (r := 0) (fun i hi => by rw [h i hi]; rfl) (Nat.zero_le _)]
  rfl
theorem givD_one {n r : Nat} {f : Nat → Bool} {v : Nat → PyData} (h : ∀ i, i < n → f i = decide (i = r)) (hr : r < n) : givD n f v = [v r] := by
  have : ∀ m, m ≤ n → givD m f v = if r < m then [v r] else [] := fun m => by
    induction m with
    | zero => intro _; rw [if_neg (by omega)]; rfl
    | succ m ih =>
      intro hm
      have ih := ih (by omega)
      have hf := h m (by omega)
      by_cases z : m = r
      · rw [givD_yes (by rw [hf]; simpa using z), ih, if_neg (by omega), if_pos (by omega), z]; rfl
      · rw [givD_no (by rw [hf]; simpa using z), ih]
        by_cases q : r < m
        · rw [if_pos q, if_pos (by omega)]
        · rw [if_neg q, if_neg (by omega)]
  rw [this n (Nat.le_refl _), if_pos hr]
theorem eqv_nat (a b : Nat) : PyData.eqv (.int (a : Int)) (.int (b : Int)) = decide (a = b) := by
  rw [Bool.eq_iff_iff, decide_eq_true_eq]
  show ((a : Int) == (b : Int)) = true ↔ _
  rw [beq_iff_eq]
  omega
theorem sum_range (n : Nat) (f : Nat → Int) : ((List.range n).map f).sum = sumN n f := by
  induction n with
  | zero => rfl
  | succ n ih =>
    rw [List.range_succ, List.map_append, List.sum_append, ih]
    show sumN n f + (f n + 0) = sumN n f + f n
    omega
section
variable {K : PySem.W.Frag} {σ : L2.St} {H : Hp} {D : Ends} {tu : TS}
variable (K) in
theorem s_forDown {ta : TA} {j : Nat} {n : Nat} {lo : Int} (h : EvDs K ta σ H [.int lo, .int (-1), .int (-1)]) (hlo : lo = (n : Int) - 1) (hn : n ≤ 100000) (Pv : Nat → L2.St → Hp → Prop) (h0 : ∀ H1, Ex H H1 → Pv 0 σ H1)
    (hs : ∀ (i : Nat) σ' H', i < n → Pv i σ' H' → tu { D with nx := Pv (i + 1), ct := Pv (i + 1), bk := D.nx } (σ'.set j (some (.int ((n - 1 - i : Nat) : Int)))) H') (hd : ∀ σ' H', Pv n σ' H' → D.nx σ' H') : tFor (iRng3 ta) (gName j) tu D σ H :=
  h H ex_refl _ fun vs H1 e hv => by
    obtain ⟨a, b, c, rfl, ha, hb, hc⟩ := dd3 hv
    obtain rfl := dp_int ha
    obtain rfl := dp_int hb
    obtain rfl := dp_int hc
    subst hlo
    refine ⟨(n : Int) - 1, -1, -1, n, rfl, ?_, ?_⟩
    · have := RgC.neg (i := (n : Int) - 1) (j := -1) (by omega) (by omega) (by omega) (by omega)
      rwa [show (((n : Int) - 1) - -1).toNat = n by omega] at this
    · refine ⟨fun i m σ H => m = n - i ∧ i ≤ n ∧ Pv i σ H, ⟨n, by simp, Nat.zero_le _, h0 H1 e⟩, ?_⟩
      rintro i m σ H ⟨rfl, hi, p⟩
      by_cases hlt : i < n
      · refine .inr ⟨hlt, Pv (i + 1), fun σ' H' p' => ⟨n - (i + 1), by omega, rfl, hlt, p'⟩, fun x H' y => ?_⟩
        obtain ⟨rfl, rfl⟩ := y
        have e2 : (n : Int) - 1 + (i : Nat) * -1 = ((n - 1 - i : Nat) : Int) := by omega
        rw [e2]
        exact hs i σ _ hlt p
      · have e : i = n := by omega
        subst e
        exact .inl ⟨Nat.le_refl _, hd σ H p⟩
variable (K) in
theorem s_for3 {ta : TA} {j : Nat} {n : Nat} {lo hi c : Int} (h : EvDs K ta σ H [.int lo, .int hi, .int c]) (hr : RgC lo hi c n) (Pv : Nat → L2.St → Hp → Prop) (h0 : ∀ H1, Ex H H1 → Pv 0 σ H1)
    (hs : ∀ (i : Nat) σ' H', i < n → Pv i σ' H' → tu { D with nx := Pv (i + 1), ct := Pv (i + 1), bk := D.nx } (σ'.set j (some (.int (lo + (i : Int) * c)))) H') (hd : ∀ σ' H', Pv n σ' H' → D.nx σ' H') : tFor (iRng3 ta) (gName j) tu D σ H :=
  h H ex_refl _ fun vs H1 e hv => by
    obtain ⟨a, b, c', rfl, ha, hb, hc⟩ := dd3 hv
    obtain rfl := dp_int ha
    obtain rfl := dp_int hb
    obtain rfl := dp_int hc
    refine ⟨_, _, _, n, rfl, hr, ?_⟩
    refine ⟨fun i m σ H => m = n - i ∧ i ≤ n ∧ Pv i σ H, ⟨n, by simp, Nat.zero_le _, h0 H1 e⟩, ?_⟩
    rintro i m σ H ⟨rfl, hi, p⟩
    by_cases hlt : i < n
    · refine .inr ⟨hlt, Pv (i + 1), fun σ' H' p' => ⟨n - (i + 1), by omega, rfl, hlt, p'⟩, fun x H' y => ?_⟩
      obtain ⟨rfl, rfl⟩ := y
      exact hs i σ _ hlt p
    · have e : i = n := by omega
      subst e
      exact .inl ⟨Nat.le_refl _, hd σ H p⟩
end
def RDot (ds : List PyData) (d : PyData) : Prop := ∃ (k1 k2 : Bool) (p q : Pt) (a b : Nat), ds = [seqD k1 (p.map .int), seqD k2 (q.map .int)] ∧ d = .int (wdot p.length (vf p) (vf q)) ∧ p.length = q.length ∧ p.length ≤ 1000 ∧ Bd a p ∧ Bd b q ∧ a + b < 100000000
def wtsP (L : List Pt) (E : Nat → Nat) (W c r i : Nat) : Pt := (List.range W).map (wtsN L E W c r i).1
theorem wtsP_len (L : List Pt) (E : Nat → Nat) (W c r i : Nat) : (wtsP L E W c r i).length = W := by simp [wtsP]
theorem wtsP_vf {L : List Pt} {E : Nat → Nat} {W c r i j : Nat} (hj : j < W) : vf (wtsP L E W c r i) j = (wtsN L E W c r i).1 j := by
  unfold wtsP vf
  simp [List.getD_eq_getElem?_getD, hj]
theorem wdot_wts {L : List Pt} {E : Nat → Nat} {W c r i : Nat} (q : Nat → Int) : wdot W (vf (wtsP L E W c r i)) q = wdot W (wtsN L E W c r i).1 q := sumN_congr fun j hj => by rw [wtsP_vf hj]
def RWts (ds : List PyData) (d : PyData) : Prop := ∃ (W c r y : Nat) (L : List Pt) (E : Nat → Nat) (h : Hnf W L E), ds = [.list ((L.take r).map ptD), .list ((List.range r).map fun k => .int (E k : Int)), .int (c : Int), .int (W : Int)] ∧
  d = .tuple [ptD (wtsP L E W c r r), .int (wtsN L E W c r r).2] ∧ Upto h c r ∧ c < W ∧ W ≤ 100 ∧ (∀ i, i < L.length → Bd y (L.getD i [])) ∧ (W + 2) * (y + 8) < 100000000
def ROutside (ds : List PyData) (d : PyData) : Prop := ∃ (k : Bool) (W c r y x : Nat) (L : List Pt) (E : Nat → Nat) (h : Hnf W L E) (p : Pt), ds = [.list (L.map ptD), .int (W : Int), .int (c : Int), seqD k (p.map .int)] ∧
  d = .tuple [.str "no", ptD (wtsP L E W c r r), .int (if r < L.length ∧ E r = c then (wtsN L E W c r r).2 * pe L r c else ((wdot W (wtsN L E W c r r).1 (vf p)).natAbs + 1 : Nat))] ∧ Upto h c r ∧ c < W ∧ W ≤ 100 ∧ p.length = W ∧ Bd x p ∧ (∀ i, i < L.length → Bd y (L.getD i [])) ∧ x + (W + 2) * (y + 8) < 100000000
def ShY (W : Nat) (S : List Pt) (p : Pt) (B : Nat) (cs : List Int) : Prop := Lat S.length (pe S) (vf p) ∧ cs.length = S.length ∧ (∀ j, cmb S cs j = vf p j) ∧ Bd B cs
def ShN (W : Nat) (S : List Pt) (p : Pt) (B : Nat) (w : Pt) (m : Int) : Prop := w.length = W ∧ Out W S (vf p) (vf w) m ∧ Bd B w
def ShD (W : Nat) (S : List Pt) (p : Pt) (B : Nat) (d : PyData) : Prop := (∃ cs, d = .tuple [.str "yes", plD cs] ∧ ShY W S p B cs) ∨ ∃ w m, d = .tuple [.str "no", ptD w, .int m] ∧ ShN W S p B w m
structure ReachOk (W b : Nat) (S : List Pt) (p : Pt) (x : Nat) : Prop where
  good : Good W b S
  len : p.length = W
  bp : Bd x p
  bit : x + (W + 3) * (ys b W + 10) < 100000000
def spReach (C : Addr) (K : PySem.W.Frag) : Sp := fun vs H Q _ => ∃ a u W b S p x k, vs = [.ref a, u] ∧ FieldAt C K H a W S ∧ Dd K H u (seqD k (p.map .int)) ∧ ReachOk W b S p x ∧
  (∀ t l cs H2, Ex H H2 → H l = none → ZT H2 t [.str "yes", .ref l] → H2 l = some (.lst (cs.map V.int)) → ShY W S p (x + (W + 2) * (ys b W + 4)) cs → Q (.ref t) H2) ∧
  (∀ v w m H2, Ex H H2 → Dd K H2 v (.tuple [.str "no", ptD w, .int m]) → ShN W S p ((W + 2) * (ys b W + 9)) w m → Q v H2)
def RShown (ds : List PyData) (d : PyData) : Prop := ∃ (k : Bool) (W b x B : Nat) (S : List Pt) (p : Pt) (f : PyData), ds = [f, .int (W : Int), .list (S.map ptD), seqD k (p.map .int)] ∧ d = .bool true ∧ ShD W S p B f ∧ StepsOk W b S ∧ p.length = W ∧ Bd x p ∧ W ≤ 100 ∧ S.length ≤ 1000 ∧ B + b < 100000000 ∧ B + x < 100000000
section
variable {K : PySem.W.Frag} {σ : L2.St} {H : Hp} {C : Addr} {E : XK} {tf tp : TE} {W b x : Nat} {S : List Pt} {p : Pt}
theorem er_reach {k : Bool} (h1 : EvFd C K tf σ H W S) (h2 : EvD K tp σ H (seqD k (p.map .int))) (ok : ReachOk W b S p x) : EvR (tCall (spReach C K) [] E (tCons tf (tCons tp tNil))) σ H (fun v H2 => Ex H H2 ∧ ∃ d, Dd K H2 v d ∧ ShD W S p (x + (W + 2) * (ys b W + 10)) d) := fun Q q =>
  h1 H ex_refl _ fun a H1 e1 hF => h2 H1 e1 _ fun u H2 e2 hu => by
    refine ⟨a, u, W, b, S, p, x, k, by simp, hF.up e2, hu, ok, fun t l cs H3 e3 hl ht hl2 hc => ?_, fun v w m H3 e3 hd hw => ?_⟩
    · have le : x + (W + 2) * (ys b W + 4) ≤ x + (W + 2) * (ys b W + 10) := Nat.add_le_add_left (Nat.mul_le_mul_left _ (by omega)) _
      exact q _ H3 ⟨ex_tr e1 (ex_tr e2 e3), _, .tup ht (.cons (.str _) (.cons (.lst (SqL.of hl2) (DdAll.ints cs)) .nil)), .inl ⟨cs, rfl, hc.1, hc.2.1, hc.2.2.1, hc.2.2.2.up le⟩⟩
    · have le : (W + 2) * (ys b W + 9) ≤ x + (W + 2) * (ys b W + 10) := by
        have : (W + 2) * (ys b W + 9) ≤ (W + 2) * (ys b W + 10) := Nat.mul_le_mul_left _ (by omega)
        omega
      exact q _ H3 ⟨ex_tr e1 (ex_tr e2 e3), _, hd, .inr ⟨w, m, rfl, hw.1, hw.2.1, hw.2.2.up le⟩⟩
theorem er_reachY {k : Bool} (h1 : EvFd C K tf σ H W S) (h2 : EvD K tp σ H (seqD k (p.map .int))) (ok : ReachOk W b S p x) (hin : Lat S.length (pe S) (vf p)) : EvR (tCall (spReach C K) [] E (tCons tf (tCons tp tNil))) σ H (fun v H2 => Ex H H2 ∧ ∃ t l cs, v = .ref t ∧ H l = none ∧ ZT H2 t [.str "yes", .ref l] ∧ H2 l = some (.lst (cs.map V.int)) ∧ ShY W S p (x + (W + 2) * (ys b W + 10)) cs) := fun Q q =>
  h1 H ex_refl _ fun a H1 e1 hF => h2 H1 e1 _ fun u H2 e2 hu => by
    refine ⟨a, u, W, b, S, p, x, k, by simp, hF.up e2, hu, ok, fun t l cs H3 e3 hl ht hl2 hc => ?_, fun v w m H3 e3 hd hw => absurd hin hw.2.1.not⟩
    have le : x + (W + 2) * (ys b W + 4) ≤ x + (W + 2) * (ys b W + 10) := Nat.add_le_add_left (Nat.mul_le_mul_left _ (by omega)) _
    exact q _ H3 ⟨ex_tr e1 (ex_tr e2 e3), t, l, cs, rfl, ex_back (ex_tr e1 e2) hl, ht, hl2, hc.1, hc.2.1, hc.2.2.1, hc.2.2.2.up le⟩
end
section
variable {K : PySem.W.Frag} {σ : L2.St} {H : Hp}
theorem er_yes {i : Nat} {v : V} {cs : Pt} {Q : VK} (hv : σ[i]? = some (some v)) (hd : Dd K H v (ptD cs)) (q : ∀ t l H2, Ex H H2 → H l = none → ZT H2 t [.str "yes", .ref l] → H2 l = some (.lst (cs.map V.int)) → Q (.ref t) H2) :
    tTupZ (tCons (tC (.str "yes")) (tCons (tCB (rListOf K) (tCons (tVar i) tNil)) tNil)) σ H Q := by
  obtain ⟨a, xs, rfl, hs, ha⟩ := dp_tup hd
  rw [dp_ints ha] at hs
  refine ⟨_, hv, a, _, rfl, .inr hs.sq, fun l hl => ?_⟩
  refine ⟨Evl.sz_of (by simp), fun t o ht ho => ?_⟩
  exact q t l _ (ex_tr (ex_new hl) (ex_new ht)) hl ⟨o, upd_same, ho⟩ ((ex_new ht) l _ upd_same)
theorem ev_lenS {te : TE} {k : Bool} {ds : List PyData} (h : EvD K te σ H (seqD k ds)) : EvD K (tCB (rLen K) (tCons te tNil)) σ H (.int (ds.length : Nat)) := by
  cases k with
  | true => exact ev_cb (ea_cons h ea_nil) rc_lenL'
  | false => exact ev_cb (ea_cons h ea_nil) rc_lenT'
theorem ev_tupS {te : TE} {k : Bool} {ds : List PyData} (h : EvD K te σ H (seqD k ds)) : EvD K (tCB (rTupleOf K) (tCons te tNil)) σ H (.tuple ds) := by
  cases k with
  | true => exact ev_cb (ea_cons h ea_nil) rc_tupleL
  | false => exact ev_cb (ea_cons h ea_nil) rc_tupleT
theorem ef_listS {te : TE} {k : Bool} {ds : List PyData} (h : EvD K te σ H (seqD k ds)) : EvF K (tCB (rListOf K) (tCons te tNil)) σ H ds := by
  cases k with
  | true => exact ef_cb (ea_cons h ea_nil) rc_listL
  | false => exact ef_cb (ea_cons h ea_nil) rc_listT
end
def cntP (n : Nat) (R : List Row) (E : Nat → Nat) (p : Nat → Int) (r : Nat) : Pt := (List.range n).map (cntF R E p r)
theorem cntP_len (n : Nat) (R : List Row) (E : Nat → Nat) (p : Nat → Int) (r : Nat) : (cntP n R E p r).length = n := by simp [cntP]
theorem cntP_vf {n : Nat} {R : List Row} {E : Nat → Nat} {p : Nat → Int} {r j : Nat} (hj : j < n) : vf (cntP n R E p r) j = cntF R E p r j := by
  unfold cntP vf
  simp [List.getD_eq_getElem?_getD, hj]
theorem Out.vf {W : Nat} {S : List Pt} {p : Nat → Int} {m : Int} {L : List Pt} {E : Nat → Nat} {c r i : Nat} (h : Out W S p (wtsN L E W c r i).1 m) : Out W S p (vf (wtsP L E W c r i)) m :=
  ⟨h.1, fun k hk => by rw [wdot_wts]; exact h.2.1 k hk, by rw [wdot_wts]; exact h.2.2⟩
end SF
namespace SF
open PySem PySem.Spec PyProof.Rows L2
theorem ex_mut1 {s : Addr} {H0 H H' : Hp} (a : Ex H0 H) (n : H0 s = none) (b : Ex1 s H H') : Ex H0 H' := fun c o h => b c o (a c o h) (by rintro rfl; rw [n] at h; cases h)
section
variable {K : PySem.W.Frag} {σ : L2.St} {H : Hp} {te : TE}
def DrawE (K : PySem.W.Frag) (te : TE) (x : V) (ns : List Int) (sp : Addr) (Pz : Int → Prop) (σ' : L2.St) (H0 : Hp) : Prop := ∀ H' p, Ex1 sp H0 H' → Scr K H' x ns → H' sp = some (.lst [.int ((p : Nat) : Int)]) → EvR te σ' H' (fun v H'' => ∃ z p', v = .int z ∧ Pz z ∧ Ex1 sp H' H'' ∧ H'' sp = some (.lst [.int ((p' : Nat) : Int)]))
def Drawn (K : PySem.W.Frag) (sp : Addr) (H : Hp) (n : Nat) (Pz : Int → Prop) (v : V) (H' : Hp) : Prop := ∃ (Da : Addr) (cs : List Int) (p' : Nat), v = .ref Da ∧ H Da = none ∧ Ex1 sp H H' ∧ H' sp = some (.lst [.int ((p' : Nat) : Int)]) ∧ H' Da = some (.lst (cs.map V.int)) ∧ cs.length = n ∧ ∀ z ∈ cs, Pz z
theorem draw_step {x : V} {ns : List Int} {sp Da : Addr} {Pz : Int → Prop} {σ' : L2.St} {H' : Hp} {i n : Nat} (hx : Scr K H x ns) {xs0 : List V} (hs : H sp = some (.lst xs0)) (hi : i < n) (hn : n ≤ 50000) (hd : DrawE K te x ns sp Pz σ' H) (hP : H Da = none ∧ Ex1 sp H H' ∧ (∃ p' : Nat, H' sp = some (.lst [.int (p' : Int)])) ∧ ∃ cs : List Int, H' Da = some (.lst (cs.map V.int)) ∧ cs.length = i ∧ ∀ z ∈ cs, Pz z) :
    te σ' H' fun y H4 => ∃ acc, H4 Da = some (.lst acc) ∧ acc.length < sizeLine ∧ (H Da = none ∧ Ex1 sp H (upd H4 Da (.lst (acc ++ [y]))) ∧ (∃ p' : Nat, (upd H4 Da (.lst (acc ++ [y]))) sp = some (.lst [.int (p' : Int)])) ∧ ∃ cs : List Int, (upd H4 Da (.lst (acc ++ [y]))) Da = some (.lst (cs.map V.int)) ∧ cs.length = i + 1 ∧ ∀ z ∈ cs, Pz z) := by
  obtain ⟨q1, q2, ⟨p5, q3⟩, cs, q4, q5, q6⟩ := hP
  have nDs : Da ≠ sp := by rintro rfl; rw [hs] at q1; cases q1
  refine hd H' p5 q2 (hx.up1 q2 hs) q3 _ ?_
  rintro v H6 ⟨z, p6, rfl, hz, e6, g6⟩
  refine ⟨cs.map V.int, e6 Da _ q4 nDs, Evl.sz_lt (by rw [List.length_map]; omega), q1, ?_, ⟨p6, ?_⟩, cs ++ [z], ?_, by simp [q5], ?_⟩
  · exact ex1_mut (ex1_tr q2 e6) q1 ex1_upd
  · rw [upd_ne nDs.symm]
    exact g6
  · rw [upd_same]; simp
  · intro y hy
    rcases List.mem_append.mp hy with hy | hy
    · exact q6 y hy
    · obtain rfl := List.mem_singleton.mp hy
      exact hz
theorem er_drawR {x : V} {ns : List Int} {sp : Addr} {p j : Nat} {Pz : Int → Prop} {t : TA} {n : Nat} (hx : Scr K H x ns) (hs : H sp = some (.lst [.int (p : Int)])) (h : EvDs K t σ H [.int (n : Int)]) (hn : n ≤ 50000) (hw : ∀ x, wipe ((wipe σ [j]).set j (some x)) [j] = wipe σ [j])
    (hd : ∀ i : Nat, DrawE K te x ns sp Pz ((wipe σ [j]).set j (some (.int (i : Int)))) H) : EvR (tLc (iRng1 t) (gName j) tYes te [j]) σ H (Drawn K sp H n Pz) := fun Q q =>
  er_lcR h (by omega) (by omega) hw (fun Da i H' => H Da = none ∧ Ex1 sp H H' ∧ (∃ p' : Nat, H' sp = some (.lst [.int (p' : Int)])) ∧ ∃ cs : List Int, H' Da = some (.lst (cs.map V.int)) ∧ cs.length = i ∧ ∀ z ∈ cs, Pz z)
    (fun H5 Da e5 hDa => ⟨ex_back e5 hDa, ex1_of (ex_tr e5 (ex_new hDa)), ⟨p, (ex_new hDa) sp _ (e5 sp _ hs)⟩, [], upd_same, rfl, fun z hz => by cases hz⟩)
    (fun Da i H5 hi hP => draw_step (n := n) hx hs (by omega) hn (hd i) hP) Q (fun v H' hv => by
      obtain ⟨Da, rfl, q1, q2, ⟨p', q3⟩, cs, q4, q5, q6⟩ := hv
      exact q _ H' ⟨Da, cs, p', rfl, q1, q2, q3, q4, by rw [q5]; omega, q6⟩)
theorem er_drawL {x : V} {ns : List Int} {sp l : Addr} {xs : List V} {p j i : Nat} {Pz : Int → Prop} (hx : Scr K H x ns) (hs : H sp = some (.lst [.int (p : Int)])) (h : σ[i]? = some (some (.ref l))) (hl : H l = some (.lst xs)) (hls : l ≠ sp) (hn : xs.length ≤ 50000) (hw : ∀ x, wipe ((wipe σ [j]).set j (some x)) [j] = wipe σ [j])
    (hd : ∀ y : V, DrawE K te x ns sp Pz ((wipe σ [j]).set j (some y)) H) : EvR (tLc (iLT K (tVar i)) (gName j) tYes te [j]) σ H (Drawn K sp H xs.length Pz) := fun Q q => by
  refine ⟨_, h, l, rfl, .inl ⟨⟨xs, SqL.of hl⟩, fun Da hD => ?_⟩⟩
  have nl : Da ≠ l := by rintro rfl; rw [hl] at hD; cases hD
  refine lc_list (xs := xs) (fun i H' => (H Da = none ∧ Ex1 sp H H' ∧ (∃ p' : Nat, H' sp = some (.lst [.int (p' : Int)])) ∧ ∃ cs : List Int, H' Da = some (.lst (cs.map V.int)) ∧ cs.length = i ∧ ∀ z ∈ cs, Pz z)) ⟨hD, ex1_of (ex_new hD), ⟨p, (ex_new hD) sp _ hs⟩, [], upd_same, rfl, fun z hz => by cases hz⟩
    (fun k H' _ hP => SqL.of (hP.2.1 l _ hl hls)) (fun k y H' hy hP => ?_) (fun H' hP => ?_)
  · refine ⟨hw y, ?_⟩
    have hk := (List.getElem?_eq_some_iff.mp hy).1
    exact draw_step (n := xs.length) hx hs hk hn (hd y) hP
  · obtain ⟨q1, q2, ⟨p', q3⟩, cs, q4, q5, q6⟩ := hP
    exact q _ H' ⟨Da, cs, p', rfl, q1, q2, q3, q4, q5, q6⟩
theorem draw_next {x : V} {ns : List Int} {sp : Addr} {ix isp : Nat} {E : XK} {σ' : L2.St} (hn : ns.length ≤ 1000) (h1 : σ'[ix]? = some (some x)) (h2 : σ'[isp]? = some (some (.ref sp))) {Q : VK} {H' : Hp} {p : Nat} (hx : Scr K H' x ns) (hs : H' sp = some (.lst [.int (p : Int)]))
    (q : ∀ H'', Ex1 sp H' H'' → H'' sp = some (.lst [.int ((p + 1 : Nat) : Int)]) → Q (.int (vf ns p)) H'') : tCall (spNext K) [] E (tCons (tVar ix) (tCons (tVar isp) tNil)) σ' H' Q := er_next hx hn hs h1 h2 Q fun v H'' hv => by
  obtain ⟨rfl, e, g⟩ := hv
  exact q H'' e g
theorem draw_mod {x : V} {ns : List Int} {sp : Addr} {ix isp : Nat} {E : XK} {σ' : L2.St} {H0 : Hp} {m c : Int} (hn : ns.length ≤ 1000) (hm : 0 < m) (h1 : σ'[ix]? = some (some x)) (h2 : σ'[isp]? = some (some (.ref sp))) :
    DrawE K (tOp (rI0 fun i j => .int (i - j)) (tOp (rI (fun _ j => j ≠ 0) fun i j => .int (i.fmod j)) (tCall (spNext K) [] E (tCons (tVar ix) (tCons (tVar isp) tNil))) (tC (.int m))) (tC (.int c))) x ns sp (fun z => -c ≤ z ∧ z < m - c) σ' H0 := fun H' p e hx hs Q q =>
  draw_next hn h1 h2 hx hs fun H'' e2 g => by
    refine ⟨_, _, rfl, rfl, by omega, ?_⟩
    refine ⟨_, _, rfl, rfl, ?_⟩
    have hf := fmod_pos (a := vf ns p) (b := m) hm
    exact q _ H'' ⟨_, p + 1, rfl, ⟨by omega, by omega⟩, e2, g⟩
end
section
variable {K : PySem.W.Frag} {σ : L2.St} {H : Hp} {C : Addr} {E E' : XK} {tf tp tw ts tq : TE} {W b x : Nat} {S : List Pt} {p : Pt}
theorem ev_shownR {k k' : Bool} (h1 : EvFd C K tf σ H W S) (h2 : EvD K tp σ H (seqD k (p.map .int))) (ok : ReachOk W b S p x) (hr : EvDs K (tCons tw (tCons ts (tCons tq tNil))) σ H [.int (W : Int), .list (S.map ptD), seqD k' (p.map .int)])
    (hb1 : x + (W + 2) * (ys b W + 10) + b < 100000000) (hb2 : x + (W + 2) * (ys b W + 10) + x < 100000000) :
    EvD K (tCall (spD K RShown) [] E (tCons (tCall (spReach C K) [] E' (tCons tf (tCons tp tNil))) (tCons tw (tCons ts (tCons tq tNil))))) σ H (.bool true) := fun H1 e Q q => by
  refine er_reach (fun H2 e2 => h1 H2 (ex_tr e e2)) (fun H2 e2 => h2 H2 (ex_tr e e2)) ok _ ?_
  rintro v H2 ⟨e2, d, hd, hs⟩
  refine hr H2 (ex_tr e e2) _ fun vs H3 e3 hv => ?_
  refine ⟨_, _, by rw [List.append_nil]; exact .cons (hd.up e3) hv, ⟨k', W, b, x, _, S, p, d, rfl, rfl, hs, ok.good.ok, ok.len, ok.bp, ok.good.w, by have := ok.good.n; omega, hb1, hb2⟩, fun w H4 e4 hw => ?_⟩
  exact q w H4 (ex_tr e2 (ex_tr e3 e4)) hw
end
theorem reach4 {W : Nat} {S : List Pt} {p : Pt} {x : Nat} (hg : Good W 50 S) (hW : W ≤ 4) (hp : p.length = W) (hb : Bd x p) (hx : x ≤ 1000000) : ReachOk W 50 S p x := ⟨hg, hp, hb, by
  have := ys4 hW
  have : (W + 3) * (ys 50 W + 10) ≤ 7 * (ys 50 W + 10) := Nat.mul_le_mul_right _ (by omega)
  omega⟩
theorem reach4b {W x : Nat} (hW : W ≤ 4) (hx : x ≤ 1000000) : x + (W + 2) * (ys 50 W + 10) + 50 < 100000000 ∧ x + (W + 2) * (ys 50 W + 10) + x < 100000000 := by
  have := ys4 hW
  have : (W + 2) * (ys 50 W + 10) ≤ 6 * (ys 50 W + 10) := Nat.mul_le_mul_right _ (by omega)
  omega
theorem shown_lit {d : PyData} : SeqAt.shaped (.str "yes") = true := by decide +kernel
theorem made_bd50 {W most : Nat} {great : Bool} {S : List Pt} {cs : List Int} (h : LSteps W most great S) (hm : most ≤ 6) {A : Nat} (hA : A ≤ 2 ^ 20) (hc : ∀ z ∈ cs, z.natAbs ≤ A) : Bd 80 (madeP W S cs) := madeP_bd fun j _ => by
  have hS := h.ok (b := 50) (fun _ => by omega) (fun _ => by omega)
  have c : ∀ i, (vf cs i).natAbs ≤ A := fun i => by
    by_cases z : i < cs.length
    · exact hc _ (List.mem_of_getElem? (get_vf z))
    · rw [vf_beyond (by omega)]; exact Nat.zero_le _
  have := cmb_bd (S := S) (cs := cs) (A := A) (B := 2 ^ 50) (fun i _ => c i) (fun i hi j => Nat.le_of_lt (vf_bd (hS.bd i hi) j)) j
  have hn := h.n
  have h2 : S.length * (A * 2 ^ 50) ≤ 6 * (2 ^ 20 * 2 ^ 50) := Nat.mul_le_mul (by omega) (Nat.mul_le_mul_right _ hA)
  have h3 : 6 * (2 ^ 20 * 2 ^ 50) < 2 ^ 80 := by decide
  omega
end SF
namespace SF
open PySem PySem.Spec PyProof.Rows L2
theorem lat_app {S T : List Pt} {f : Nat → Int} : Lat (S ++ T).length (pe (S ++ T)) f ↔ ∃ a b, Lat S.length (pe S) a ∧ Lat T.length (pe T) b ∧ ∀ j, f j = a j + b j := by
  have e1 : ∀ k, k < S.length → pe (S ++ T) k = pe S k := fun k hk => by
    funext j; unfold pe
    rw [List.getD_eq_getElem?_getD, List.getElem?_append_left hk, ← List.getD_eq_getElem?_getD]
  have e2 : ∀ k, S.length ≤ k → pe (S ++ T) k = pe T (k - S.length) := fun k hk => by
    funext j; unfold pe
    rw [List.getD_eq_getElem?_getD, List.getElem?_append_right hk, ← List.getD_eq_getElem?_getD]
  constructor
  · intro h
    induction h with
    | zero => exact ⟨_, _, .zero, .zero, fun j => rfl⟩
    | @add f k c hk hf ih =>
      obtain ⟨a, b, ha, hb, he⟩ := ih
      rw [List.length_append] at hk
      by_cases z : k < S.length
      · refine ⟨_, b, ha.add k c z, hb, fun j => ?_⟩
        show f j + c * pe (S ++ T) k j = a j + c * pe S k j + b j
        rw [e1 k z, he j]; omega
      · refine ⟨a, _, ha, hb.add (k - S.length) c (by omega), fun j => ?_⟩
        show f j + c * pe (S ++ T) k j = a j + (b j + c * pe T (k - S.length) j)
        rw [e2 k (by omega), he j]; omega
  · rintro ⟨a, b, ha, hb, he⟩
    have h1 : Lat (S ++ T).length (pe (S ++ T)) a := Lat.sub (fun k hk => (Lat.mem (g := pe (S ++ T)) (k := k) (by rw [List.length_append]; omega)).of fun j => by rw [e1 k hk]) ha
    have h2 : Lat (S ++ T).length (pe (S ++ T)) b := Lat.sub (fun k hk => (Lat.mem (g := pe (S ++ T)) (k := S.length + k) (by rw [List.length_append]; omega)).of fun j => by rw [e2 _ (by omega), show S.length + k - S.length = k by omega]) hb
    exact (h1.plus h2).of fun j => (he j).symm
def cat (W : Nat) (a b : Nat → Int) : Nat → Int := fun j => if j < W then a j else b (j - W)
def zipped (W : Nat) (S T : List Pt) : List Pt := (S.map fun p => p ++ p) ++ T.map fun p => p ++ List.replicate W 0
theorem vf_cat {W : Nat} {p q : Pt} (hp : p.length = W) : vf (p ++ q) = cat W (vf p) (vf q) := by
  funext j
  unfold cat vf
  rw [List.getD_eq_getElem?_getD]
  by_cases z : j < W
  · rw [if_pos z, List.getElem?_append_left (by omega), List.getD_eq_getElem?_getD]
  · rw [if_neg z, List.getElem?_append_right (by omega), List.getD_eq_getElem?_getD, hp]
theorem vf_nought (W j : Nat) : vf (List.replicate W 0) j = 0 := by
  unfold vf
  rw [List.getD_eq_getElem?_getD, List.getElem?_replicate]
  split <;> rfl
theorem lat_map {S : List Pt} {g : Pt → Pt} {G : (Nat → Int) → Nat → Int} (hg : ∀ p ∈ S, vf (g p) = G (vf p)) (h0 : G (fun _ => 0) = fun _ => 0) (hl : ∀ a b c, G (fun j => a j + c * b j) = fun j => G a j + c * G b j) {f : Nat → Int} :
    Lat (S.map g).length (pe (S.map g)) f ↔ ∃ a, Lat S.length (pe S) a ∧ f = G a := by
  have e : ∀ k, k < S.length → pe (S.map g) k = G (pe S k) := fun k hk => by
    have : S.getD k [] = S[k] := by rw [List.getD_eq_getElem?_getD, List.getElem?_eq_getElem hk]; rfl
    have h1 : pe (S.map g) k = vf (g S[k]) := by
      funext j; unfold pe
      rw [List.getD_eq_getElem?_getD, List.getElem?_map, List.getElem?_eq_getElem hk]; rfl
    have h2 : pe S k = vf S[k] := by funext j; unfold pe; rw [this]
    rw [h1, h2, hg _ (List.getElem_mem hk)]
  constructor
  · intro h
    induction h with
    | zero => exact ⟨_, .zero, h0.symm⟩
    | @add f k c hk hf ih =>
      obtain ⟨a, ha, rfl⟩ := ih
      rw [List.length_map] at hk
      refine ⟨_, ha.add k c hk, ?_⟩
      rw [hl a (pe S k) c, e k hk]
  · rintro ⟨a, ha, rfl⟩
    induction ha with
    | zero => rw [h0]; exact .zero
    | @add f k c hk hf ih =>
      rw [hl]
      exact (ih.add k c (by rw [List.length_map]; exact hk)).of fun j => by rw [e k hk]
theorem lat_zipped {W : Nat} {S T : List Pt} (hS : ∀ p ∈ S, p.length = W) (hT : ∀ p ∈ T, p.length = W) {f : Nat → Int} : Lat (zipped W S T).length (pe (zipped W S T)) f ↔ ∃ a b, Lat S.length (pe S) a ∧ Lat T.length (pe T) b ∧ ∀ j, f j = cat W (fun j => a j + b j) a j := by
  have l1 : ∀ {g : Nat → Int}, _ ↔ _ := fun {g} => lat_map (S := S) (g := fun p => p ++ p) (G := fun a => cat W a a) (fun p hp => vf_cat (hS p hp)) (by funext j; simp [cat]) (fun a b c => by funext j; unfold cat; split <;> rfl) (f := g)
  have l2 : ∀ {g : Nat → Int}, _ ↔ _ := fun {g} => lat_map (S := T) (g := fun p => p ++ List.replicate W 0) (G := fun a => cat W a fun _ => 0) (fun p hp => by rw [vf_cat (hT p hp)]; congr 1; funext j; exact vf_nought W j) (by funext j; simp [cat]) (fun a b c => by funext j; unfold cat; split <;> simp) (f := g)
  unfold zipped
  rw [lat_app]
  constructor
  · rintro ⟨x, y, hx, hy, he⟩
    obtain ⟨a, ha, rfl⟩ := l1.mp hx
    obtain ⟨b, hb, rfl⟩ := l2.mp hy
    refine ⟨a, b, ha, hb, fun j => ?_⟩
    rw [he j]
    unfold cat
    split
    · rfl
    · exact Int.add_zero _
  · rintro ⟨a, b, ha, hb, he⟩
    refine ⟨_, _, l1.mpr ⟨a, ha, rfl⟩, l2.mpr ⟨b, hb, rfl⟩, fun j => ?_⟩
    rw [he j]
    unfold cat
    split
    · rfl
    · exact (Int.add_zero _).symm
theorem upto_ex {W : Nat} {L : List Pt} {E : Nat → Nat} (h : Hnf W L E) : ∀ c, ∃ r, Upto h c r
  | 0 => ⟨0, .zero h⟩
  | c + 1 => by
    obtain ⟨r, u⟩ := upto_ex h c
    by_cases z : r < L.length ∧ E r = c
    · exact ⟨r + 1, u.next z.1 z.2⟩
    · exact ⟨r, u.skip fun k hk e => z (by have := u.here hk e; rw [this] at hk e; exact ⟨hk, e⟩)⟩
def commonP (W : Nat) (S T : List Pt) : List Pt := ((stairP (2 * W) (zipped W S T)).filter fun p => decide (p.take W = List.replicate W 0)).map fun p => p.drop W
theorem filter_drop {W : Nat} {L : List Pt} {E : Nat → Nat} {h : Hnf (2 * W) L E} {r : Nat} (u : Upto h W r) : (L.filter fun p => decide (p.take W = List.replicate W 0)) = L.drop r := by
  have hit : ∀ i (hi : i < L.length), decide (L[i].take W = List.replicate W 0) = decide (r ≤ i) := fun i hi => by
    have eg : L.getD i [] = L[i] := by rw [List.getD_eq_getElem?_getD, List.getElem?_eq_getElem hi]; rfl
    have hl := h.len i hi
    rw [eg] at hl
    rw [decide_eq_decide]
    have hu := u.iff i hi
    constructor
    · intro z
      rcases Nat.lt_or_ge i r with q | q
      · have lt := hu.mp q
        have hp := h.pos i hi
        have : pe L i (E i) = 0 := by
          unfold pe
          rw [eg]
          have h1 : (L[i].take W)[E i]? = some 0 := by rw [z, List.getElem?_replicate, if_pos lt]
          rw [List.getElem?_take_of_lt lt] at h1
          unfold vf
          rw [List.getD_eq_getElem?_getD, h1]; rfl
        omega
      · exact q
    · intro q
      have ge : W ≤ E i := by
        rcases Nat.lt_or_ge (E i) W with z | z
        · have := hu.mpr z; omega
        · exact z
      refine pt_ext (by simp; omega) fun j hj => ?_
      have hj : j < W := by simp at hj; omega
      rw [vf_nought]
      have := h.zero i j hi (by omega)
      unfold pe at this
      rw [eg] at this
      unfold vf at this ⊢
      rw [List.getD_eq_getElem?_getD] at this ⊢
      rw [List.getElem?_take_of_lt hj]
      exact this
  rw [show L.filter (fun p => decide (p.take W = List.replicate W 0)) = (L.take r ++ L.drop r).filter (fun p => decide (p.take W = List.replicate W 0)) by rw [List.take_append_drop], List.filter_append]
  have h1 : (L.take r).filter (fun p => decide (p.take W = List.replicate W 0)) = [] := by
    rw [List.filter_eq_nil_iff]
    intro p hp
    obtain ⟨i, hi, rfl⟩ := List.mem_iff_getElem.mp hp
    rw [List.length_take] at hi
    rw [List.getElem_take, hit i (by omega)]
    simp; omega
  have h2 : (L.drop r).filter (fun p => decide (p.take W = List.replicate W 0)) = L.drop r := by
    rw [List.filter_eq_self]
    intro p hp
    obtain ⟨i, hi, rfl⟩ := List.mem_iff_getElem.mp hp
    rw [List.length_drop] at hi
    rw [List.getElem_drop, hit (r + i) (by omega)]
    simp
  rw [h1, h2, List.nil_append]
theorem vf_drop (p : Pt) (W j : Nat) : vf (p.drop W) j = vf p (W + j) := by
  unfold vf
  rw [List.getD_eq_getElem?_getD, List.getD_eq_getElem?_getD, List.getElem?_drop]
theorem getD_dm {L : List Pt} {r i : Nat} {f : Pt → Pt} (hi : i < L.length - r) : ((L.drop r).map f).getD i [] = f (L.getD (r + i) []) := by
  rw [List.getD_eq_getElem?_getD, List.getD_eq_getElem?_getD, List.getElem?_map, List.getElem?_drop, List.getElem?_eq_getElem (show r + i < L.length by omega)]
  rfl
theorem tails_hnf {W : Nat} {L : List Pt} {E : Nat → Nat} (h : Hnf (2 * W) L E) {r : Nat} (u : Upto h W r) : Hnf W ((L.drop r).map fun p => p.drop W) (fun i => E (r + i) - W) ∧ ∀ f, Lat ((L.drop r).map fun p => p.drop W).length (pe ((L.drop r).map fun p => p.drop W)) f ↔ Lat L.length (pe L) (cat W (fun _ => 0) f) := by
  have hlen : ((L.drop r).map fun p => p.drop W).length = L.length - r := by rw [List.length_map, List.length_drop]
  have hrl := u.le
  have ev : ∀ i, i < L.length - r → ∀ j, pe ((L.drop r).map fun p => p.drop W) i j = pe L (r + i) (W + j) := fun i hi j => by
    unfold pe
    rw [getD_dm hi, vf_drop]
  have ge : ∀ i, i < L.length - r → W ≤ E (r + i) := fun i hi => by
    rcases Nat.lt_or_ge (E (r + i)) W with z | z
    · have := (u.iff (r + i) (by omega)).mpr z; omega
    · exact z
  refine ⟨⟨fun i hi => ?_, fun i i' h1 h2 => ?_, fun i hi => ?_, fun i j hi hj => ?_, fun i hi => ?_, fun i i' h1 h2 => ?_⟩, fun f => ⟨fun hf => ?_, fun hf => ?_⟩⟩
  · rw [hlen] at hi
    have := h.len (r + i) (by omega)
    rw [getD_dm hi, List.length_drop]
    omega
  · rw [hlen] at h2
    have := h.mono (r + i) (r + i') (by omega) (by omega)
    have := ge i (by omega)
    show E (r + i) - W < E (r + i') - W
    omega
  · rw [hlen] at hi
    have := h.lt (r + i) (by omega)
    have := ge i hi
    show E (r + i) - W < W
    omega
  · rw [hlen] at hi
    rw [ev i hi]
    have : j < E (r + i) - W := hj
    exact h.zero (r + i) (W + j) (by omega) (by omega)
  · rw [hlen] at hi
    have g := ge i hi
    rw [ev i hi, show W + (E (r + i) - W) = E (r + i) by omega]
    exact h.pos (r + i) (by omega)
  · rw [hlen] at h2
    have g := ge i' h2
    rw [ev i (by omega), ev i' h2, show W + (E (r + i') - W) = E (r + i') by omega]
    exact h.red (r + i) (r + i') (by omega) (by omega)
  · have : ∀ k, k < ((L.drop r).map fun p => p.drop W).length → Lat L.length (pe L) (cat W (fun _ => 0) (pe ((L.drop r).map fun p => p.drop W) k)) := fun k hk => by
      rw [hlen] at hk
      refine (Lat.mem (g := pe L) (show r + k < L.length by omega)).of fun j => ?_
      unfold cat
      by_cases z : j < W
      · rw [if_pos z]
        exact h.zero (r + k) j (by omega) (by have := ge k hk; omega)
      · rw [if_neg z, ev k hk, show W + (j - W) = j by omega]
    induction hf with
    | zero => exact Lat.zero.of fun j => by unfold cat; split <;> rfl
    | @add f k c hk hf ih => exact (ih.lin (this k hk) c).of fun j => by unfold cat; split <;> simp
  · -- the rows ahead don't speak
    obtain ⟨c, hc⟩ := lat_comb hf
    have low : ∀ n, n ≤ r → ∀ i, i < n → c i = 0 := fun n => by
      induction n with
      | zero => intro _ i hi; omega
      | succ n ih =>
        intro hn i hi
        have ih := ih (by omega)
        by_cases e : i < n
        · exact ih i e
        · have e : i = n := by omega
          subst e
          have hE : E i < W := (u.iff i (by omega)).mp (by omega)
          have v : cat W (fun _ => 0) f (E i) = c i * pe L i (E i) := by
            rw [hc]
            refine sumN_single (k := i) (by omega) fun k hk hki => ?_
            by_cases a : k < i
            · rw [ih k a, Int.zero_mul]
            · rw [h.zero k (E i) hk (h.mono i k (by omega) hk), Int.mul_zero]
          unfold cat at v
          rw [if_pos hE] at v
          have hp := h.pos i (by omega)
          rcases Int.mul_eq_zero.mp v.symm with z | z
          · exact z
          · omega
    have key : ∀ j, f j = sumN (L.length - r) fun i => c (r + i) * pe ((L.drop r).map fun p => p.drop W) i j := fun j => by
      have v : f j = cat W (fun _ => 0) f (W + j) := by
        unfold cat
        rw [if_neg (by omega), show W + j - W = j by omega]
      rw [v, hc]
      have split : ∀ m, r + m ≤ L.length → (sumN (r + m) fun i => c i * pe L i (W + j)) = sumN m fun i => c (r + i) * pe L (r + i) (W + j) := fun m => by
        induction m with
        | zero => intro _; exact sumN_zero fun i hi => by rw [low r (Nat.le_refl _) i hi, Int.zero_mul]
        | succ m ih =>
          intro hm
          show sumN (r + m) _ + _ = sumN m _ + _
          rw [ih (by omega)]
          rfl
      have := split (L.length - r) (by omega)
      rw [show r + (L.length - r) = L.length by omega] at this
      rw [this]
      exact sumN_congr fun i hi => by rw [ev i hi]
    have := comb_lat (n := ((L.drop r).map fun p => p.drop W).length) (g := pe ((L.drop r).map fun p => p.drop W)) (fun i => c (r + i)) (L.length - r) (by rw [hlen]; exact Nat.le_refl _)
    exact this.of fun j => (key j).symm
structure ComOk (W b : Nat) (S T : List Pt) : Prop where
  s : StepsOk W b S
  t : StepsOk W b T
  w : W ≤ 50
  ns : S.length ≤ 40
  nt : T.length ≤ 40
  x : xs b (2 * W) ≤ 40000000
  y : ys b (2 * W) ≤ 90000000
theorem zipped_ok {W b : Nat} {S T : List Pt} (hs : StepsOk W b S) (ht : StepsOk W b T) : StepsOk (2 * W) b (zipped W S T) := stepsOk_mem fun p hp => by
  rcases List.mem_append.mp hp with h | h
  · obtain ⟨q, hq, rfl⟩ := List.mem_map.mp h
    obtain ⟨h1, h2⟩ := hs.mem hq
    exact ⟨by rw [List.length_append]; omega, fun x hx => (List.mem_append.mp hx).elim (h2 x) (h2 x)⟩
  · obtain ⟨q, hq, rfl⟩ := List.mem_map.mp h
    obtain ⟨h1, h2⟩ := ht.mem hq
    refine ⟨by rw [List.length_append, List.length_replicate]; omega, fun x hx => (List.mem_append.mp hx).elim (h2 x) fun z => ?_⟩
    rw [(List.mem_replicate.mp z).2]
    exact Nat.two_pow_pos _
theorem common_ok {W b : Nat} {S T : List Pt} (hs : StepsOk W b S) (ht : StepsOk W b T) : (∃ E, Hnf W (commonP W S T) E) ∧ (∀ f, Lat (commonP W S T).length (pe (commonP W S T)) f ↔ Lat S.length (pe S) f ∧ Lat T.length (pe T) f) ∧ ∀ p ∈ commonP W S T, p.length = W ∧ Bd (ys b (2 * W) + 1) p := by
  have hz := zipped_ok hs ht
  obtain ⟨E, hE⟩ := stairP_hnf hz
  obtain ⟨r, u⟩ := upto_ex hE W
  have e : commonP W S T = ((stairP (2 * W) (zipped W S T)).drop r).map fun p => p.drop W := by unfold commonP; rw [filter_drop u]
  obtain ⟨h1, h2⟩ := tails_hnf hE u
  have supp : ∀ {S : List Pt}, StepsOk W b S → ∀ {f : Nat → Int}, Lat S.length (pe S) f → ∀ j, W ≤ j → f j = 0 := fun {S} hS {f} hf j hj => hf.van fun k hk => vf_beyond (by rw [hS.len k hk]; exact hj)
  rw [e]
  refine ⟨⟨_, h1⟩, fun f => ?_, fun p hp => ?_⟩
  · rw [h2 f, (stairP_lat hz) _, lat_zipped (fun p hp => (hs.mem hp).1) (fun p hp => (ht.mem hp).1)]
    constructor
    · rintro ⟨a, b', ha, hb, he⟩
      have fa : ∀ j, f j = a j := fun j => by
        have := he (W + j)
        unfold cat at this
        rw [if_neg (by omega), if_neg (by omega), show W + j - W = j by omega] at this
        exact this
      refine ⟨ha.of fun j => (fa j).symm, (hb.mul (-1)).of fun j => ?_⟩
      by_cases z : j < W
      · have h0 : (0 : Int) = a j + b' j := by
          have := he j
          unfold cat at this
          rwa [if_pos z, if_pos z] at this
        have := fa j
        show -1 * b' j = f j
        omega
      · rw [fa j, supp hs ha j (by omega), supp ht hb j (by omega)]
        rfl
    · rintro ⟨ha, hb⟩
      refine ⟨f, _, ha, hb.mul (-1), fun j => ?_⟩
      unfold cat
      split
      · show (0 : Int) = f j + -1 * f j
        omega
      · rfl
  · obtain ⟨q, hq, rfl⟩ := List.mem_map.mp hp
    obtain ⟨i, hi, rfl⟩ := List.mem_iff_getElem.mp (List.mem_of_mem_drop hq)
    have eg : (stairP (2 * W) (zipped W S T)).getD i [] = (stairP (2 * W) (zipped W S T))[i] := by rw [List.getD_eq_getElem?_getD, List.getElem?_eq_getElem hi]; rfl
    have l1 := hE.len i hi
    have b1 := stairP_bd hz hi
    rw [eg] at l1 b1
    exact ⟨by rw [List.length_drop]; omega, fun x hx => b1 x (List.mem_of_mem_drop hx)⟩
theorem common_uniq {W b b' : Nat} {S T S' T' : List Pt} (hs : StepsOk W b S) (ht : StepsOk W b T) (hs' : StepsOk W b' S') (ht' : StepsOk W b' T') (h : ∀ f, (Lat S.length (pe S) f ∧ Lat T.length (pe T) f) ↔ (Lat S'.length (pe S') f ∧ Lat T'.length (pe T') f)) : commonP W S T = commonP W S' T' := by
  obtain ⟨⟨E, h1⟩, l1, _⟩ := common_ok hs ht
  obtain ⟨⟨E', h2⟩, l2, _⟩ := common_ok hs' ht'
  exact hnf_uniq h1 h2 fun f => (l1 f).trans ((h f).trans (l2 f).symm)
def spTogether (C : Addr) (K : PySem.W.Frag) : Sp := fun vs H Q _ => ∃ a b W k S T, vs = [.ref a, .ref b] ∧ FieldAt C K H a W S ∧ FieldAt C K H b W T ∧ Good W k (S ++ T) ∧ ∀ p xs H2, H p = none → Ex H H2 → H2 p = some (.lst xs) → DdAll K H2 xs ((stairP W (S ++ T)).map ptD) → Q (.ref p) H2
def spCommon (C : Addr) (K : PySem.W.Frag) : Sp := fun vs H Q _ => ∃ a b W k S T, vs = [.ref a, .ref b] ∧ FieldAt C K H a W S ∧ FieldAt C K H b W T ∧ ComOk W k S T ∧ ∀ p xs H2, H p = none → Ex H H2 → H2 p = some (.lst xs) → DdAll K H2 xs ((commonP W S T).map ptD) → Q (.ref p) H2
section
variable {K : PySem.W.Frag} {σ : L2.St} {H : Hp} {C : Addr} {E : XK} {ta tb : TE} {W k : Nat} {S T : List Pt}
theorem ef_together (h : EvFd C K ta σ H W S) (h2 : EvFd C K tb σ H W T) (hg : Good W k (S ++ T)) : EvF K (tCall (spTogether C K) [] E (tCons ta (tCons tb tNil))) σ H ((stairP W (S ++ T)).map ptD) := fun H1 e Q q =>
  h H1 e _ fun a H2 e2 hF => h2 H2 (ex_tr e e2) _ fun b H3 e3 hF2 => ⟨a, b, W, k, S, T, by simp, hF.up e3, hF2, hg, fun p xs H4 hp e4 => q p xs H4 (ex_back (ex_tr e2 e3) hp) (ex_tr e2 (ex_tr e3 e4))⟩
theorem ef_common (h : EvFd C K ta σ H W S) (h2 : EvFd C K tb σ H W T) (hg : ComOk W k S T) : EvF K (tCall (spCommon C K) [] E (tCons ta (tCons tb tNil))) σ H ((commonP W S T).map ptD) := fun H1 e Q q =>
  h H1 e _ fun a H2 e2 hF => h2 H2 (ex_tr e e2) _ fun b H3 e3 hF2 => ⟨a, b, W, k, S, T, by simp, hF.up e3, hF2, hg, fun p xs H4 hp e4 => q p xs H4 (ex_back (ex_tr e2 e3) hp) (ex_tr e2 (ex_tr e3 e4))⟩
end
end SF
namespace SF
def mm (g : Nat → Nat → Int) (k i j : Nat) : Int := match k with
  | 0 => g i j
  | 1 => g 0 0 * g i j - g i 0 * g 0 j
  | 2 => g 0 0 * (g 1 1 * g i j - g i 1 * g 1 j) - g 0 1 * (g 1 0 * g i j - g 1 j * g i 0) + g 0 j * (g 1 0 * g i 1 - g 1 1 * g i 0)
  | _ => g 0 0 * (g 1 1 * (g 2 2 * g i j - g 2 j * g i 2) - g 1 2 * (g 2 1 * g i j - g 2 j * g i 1) + g 1 j * (g 2 1 * g i 2 - g 2 2 * g i 1))
    - g 0 1 * (g 1 0 * (g 2 2 * g i j - g 2 j * g i 2) - g 1 2 * (g 2 0 * g i j - g 2 j * g i 0) + g 1 j * (g 2 0 * g i 2 - g 2 2 * g i 0))
    + g 0 2 * (g 1 0 * (g 2 1 * g i j - g 2 j * g i 1) - g 1 1 * (g 2 0 * g i j - g 2 j * g i 0) + g 1 j * (g 2 0 * g i 1 - g 2 1 * g i 0))
    - g 0 j * (g 1 0 * (g 2 1 * g i 2 - g 2 2 * g i 1) - g 1 1 * (g 2 0 * g i 2 - g 2 2 * g i 0) + g 1 2 * (g 2 0 * g i 1 - g 2 1 * g i 0))
def dd (g : Nat → Nat → Int) : Nat → Int
  | 0 => 1
  | k + 1 => mm g k k k
def Sym (g : Nat → Nat → Int) : Prop := ∀ i j, g i j = g j i
theorem mm_sym {g : Nat → Nat → Int} (h : Sym g) {k : Nat} (hk : k ≤ 3) (i j : Nat) : mm g k i j = mm g k j i := by
  have h1 := h i j
  have a0 := h i 0
  have a1 := h i 1
  have a2 := h i 2
  have b0 := h j 0
  have b1 := h j 1
  have b2 := h j 2
  have c1 := h 0 1
  have c2 := h 0 2
  have c3 := h 1 2
  rcases k with _ | _ | _ | _ | k
  · exact h1
  · simp only [mm]; grind
  · simp only [mm]; grind
  · simp only [mm]; grind
  · omega
theorem sylv {g : Nat → Nat → Int} (h : Sym g) {k : Nat} (hk : k < 3) (i j : Nat) : dd g (k + 1) * mm g k i j - mm g k i k * mm g k j k = dd g k * mm g (k + 1) i j := by
  have b0 := h j 0
  have b1 := h j 1
  have b2 := h j 2
  have c1 := h 0 1
  have c2 := h 0 2
  have c3 := h 1 2
  rcases k with _ | _ | _ | k
  · simp only [mm, dd]; grind
  · simp only [mm, dd]; grind
  · simp only [mm, dd]; grind
  · omega
def gl (g : Nat → Nat → Int) (a o : Nat) (m : Int) (i j : Nat) : Int :=
  if i = a then (if j = a then g a a - m * g o a - m * g a o + m * m * g o o else g a j - m * g o j) else (if j = a then g i a - m * g i o else g i j)
theorem gl_sym {g : Nat → Nat → Int} (h : Sym g) (a o : Nat) (m : Int) : Sym (gl g a o m) := fun i j => by
  unfold gl
  have := h i j
  have := h a j
  have := h o j
  have := h i a
  have := h i o
  have := h a o
  split <;> split <;> simp_all
theorem mm_lean {g : Nat → Nat → Int} (h : Sym g) {a o k : Nat} (m : Int) (ho : o < a) (ha : a ≤ 3) (hk : k ≤ 3) (i j : Nat) (hi : k ≤ i) (hj : k ≤ j) : mm (gl g a o m) k i j =
    if o < k then mm g k i j else if i = a then (if j = a then mm g k a a - m * mm g k o a - m * mm g k a o + m * m * mm g k o o else mm g k a j - m * mm g k o j) else (if j = a then mm g k i a - m * mm g k i o else mm g k i j) := by
  have c1 := h 0 1
  have c2 := h 0 2
  have c3 := h 1 2
  have d0 := h i 0
  have d1 := h i 1
  have d2 := h i 2
  have d3 := h i 3
  have b0 := h j 0
  have b1 := h j 1
  have b2 := h j 2
  have b3 := h j 3
  have e0 := h 3 0
  have e1 := h 3 1
  have e2 := h 3 2
  have pr : (a = 1 ∧ o = 0) ∨ (a = 2 ∧ o = 0) ∨ (a = 2 ∧ o = 1) ∨ (a = 3 ∧ o = 0) ∨ (a = 3 ∧ o = 1) ∨ (a = 3 ∧ o = 2) := by omega
  have pk : k = 0 ∨ k = 1 ∨ k = 2 ∨ k = 3 := by omega
  rcases pk with rfl | rfl | rfl | rfl
  · simp [mm, gl]
  · rcases pr with ⟨rfl, rfl⟩ | ⟨rfl, rfl⟩ | ⟨rfl, rfl⟩ | ⟨rfl, rfl⟩ | ⟨rfl, rfl⟩ | ⟨rfl, rfl⟩ <;> simp only [mm, gl] <;> grind
  · rcases pr with ⟨rfl, rfl⟩ | ⟨rfl, rfl⟩ | ⟨rfl, rfl⟩ | ⟨rfl, rfl⟩ | ⟨rfl, rfl⟩ | ⟨rfl, rfl⟩ <;> simp only [mm, gl] <;> grind
  · rcases pr with ⟨rfl, rfl⟩ | ⟨rfl, rfl⟩ | ⟨rfl, rfl⟩ | ⟨rfl, rfl⟩ | ⟨rfl, rfl⟩ | ⟨rfl, rfl⟩ <;> simp only [mm, gl] <;> grind
def sw (a i : Nat) : Nat := if i = a then a - 1 else if i = a - 1 then a else i
def gs (g : Nat → Nat → Int) (a i j : Nat) : Int := g (sw a i) (sw a j)
theorem gs_sym {g : Nat → Nat → Int} (h : Sym g) (a : Nat) : Sym (gs g a) := fun i j => h _ _
theorem dd_swap {g : Nat → Nat → Int} (h : Sym g) {a k : Nat} (h1 : 1 ≤ a) (ha : a ≤ 3) (hk : k ≤ 4) (hka : k ≠ a) : dd (gs g a) k = dd g k := by
  have c0 := h 0 1
  have c1 := h 0 2
  have c2 := h 0 3
  have c3 := h 1 2
  have c4 := h 1 3
  have c5 := h 2 3
  have pa : a = 1 ∨ a = 2 ∨ a = 3 := by omega
  have pk : k = 0 ∨ k = 1 ∨ k = 2 ∨ k = 3 ∨ k = 4 := by omega
  rcases pk with rfl | rfl | rfl | rfl | rfl
  · rfl
  · rcases pa with rfl | rfl | rfl <;> first | (exact absurd rfl hka) | (simp only [dd, mm, gs, sw] <;> simp <;> grind)
  · rcases pa with rfl | rfl | rfl <;> first | (exact absurd rfl hka) | (simp only [dd, mm, gs, sw] <;> simp <;> grind)
  · rcases pa with rfl | rfl | rfl <;> first | (exact absurd rfl hka) | (simp only [dd, mm, gs, sw] <;> simp <;> grind)
  · rcases pa with rfl | rfl | rfl <;> first | (exact absurd rfl hka) | (simp only [dd, mm, gs, sw] <;> simp <;> grind)
theorem dd_mid {g : Nat → Nat → Int} (h : Sym g) {a : Nat} (h1 : 1 ≤ a) (ha : a ≤ 3) : dd (gs g a) a * dd g a = dd g (a + 1) * dd g (a - 1) + mm g (a - 1) a (a - 1) * mm g (a - 1) a (a - 1) := by
  have c0 := h 0 1
  have c1 := h 0 2
  have c2 := h 0 3
  have c3 := h 1 2
  have c4 := h 1 3
  have c5 := h 2 3
  have pa : a = 1 ∨ a = 2 ∨ a = 3 := by omega
  rcases pa with rfl | rfl | rfl <;> simp only [dd, mm, gs, sw] <;> simp <;> grind
theorem mm_swap {g : Nat → Nat → Int} {a k i j : Nat} (h1 : 1 ≤ a) (ha : a ≤ 3) (hk : k < a - 1) (hi : i < a - 1) (hj : j < a - 1) : mm (gs g a) k i j = mm g k i j := by
  have e : ∀ x, x < a - 1 → sw a x = x := fun x hx => by unfold sw; rw [if_neg (by omega), if_neg (by omega)]
  have pk : k = 0 ∨ k = 1 := by omega
  rcases pk with rfl | rfl
  · simp only [mm, gs, e i hi, e j hj]
  · simp only [mm, gs, e i hi, e j hj, e 0 (by omega)]
section
variable {g : Nat → Nat → Int} {a o : Nat} {m : Int}
theorem dd_lean (h : Sym g) (ho : o < a) (ha : a ≤ 3) {k : Nat} (hk : k ≤ 4) : dd (gl g a o m) k = dd g k := by
  rcases k with _ | k
  · rfl
  · show mm (gl g a o m) k k k = mm g k k k
    rw [mm_lean h m ho ha (by omega) k k (Nat.le_refl _) (Nat.le_refl _)]
    by_cases z : o < k
    · rw [if_pos z]
    · rw [if_neg z, if_neg (by omega), if_neg (by omega)]
theorem lam_other (h : Sym g) (ho : o < a) (ha : a ≤ 3) {i j : Nat} (hi : i ≠ a) (hi3 : i ≤ 3) (hj : j ≤ i) : mm (gl g a o m) j i j = mm g j i j := by
  rw [mm_lean h m ho ha (by omega) i j hj (Nat.le_refl _)]
  by_cases z : o < j
  · rw [if_pos z]
  · rw [if_neg z, if_neg hi, if_neg (by omega)]
theorem lam_same (h : Sym g) (ho : o < a) (ha : a ≤ 3) {j : Nat} (hj : o < j) (hja : j ≤ a) : mm (gl g a o m) j a j = mm g j a j := by
  rw [mm_lean h m ho ha (by omega) a j hja (Nat.le_refl _), if_pos hj]
theorem lam_at (h : Sym g) (ho : o < a) (ha : a ≤ 3) : mm (gl g a o m) o a o = mm g o a o - m * dd g (o + 1) := by
  rw [mm_lean h m ho ha (by omega) a o (by omega) (Nat.le_refl _), if_neg (by omega), if_pos rfl, if_neg (by omega)]
  rfl
end
def PosD (g : Nat → Nat → Int) (n : Nat) : Prop := ∀ k, k ≤ n → 0 < dd g k
section
variable {g : Nat → Nat → Int} {n : Nat}
theorem mm_nonneg (h : Sym g) (hp : PosD g n) (hn : n ≤ 4) {i : Nat} (hi : i < n) : ∀ r, r ≤ i → 0 ≤ mm g (i - r) i i
  | 0, _ => by
    have := hp (i + 1) (by omega)
    exact Int.le_of_lt this
  | r + 1, hr => by
    have ih := mm_nonneg h hp hn hi r (by omega)
    have s := sylv h (k := i - (r + 1)) (by omega) i i
    rw [show i - (r + 1) + 1 = i - r by omega] at s
    have p1 := hp (i - r) (by omega)
    have p2 := hp (i - (r + 1)) (by omega)
    have q : 0 ≤ dd g (i - r) * mm g (i - (r + 1)) i i := by
      have a1 : 0 ≤ dd g (i - (r + 1)) * mm g (i - r) i i := Int.mul_nonneg (by omega) ih
      have a2 : 0 ≤ mm g (i - (r + 1)) i (i - (r + 1)) * mm g (i - (r + 1)) i (i - (r + 1)) := by
        rcases Int.le_total 0 (mm g (i - (r + 1)) i (i - (r + 1))) with z | z
        · exact Int.mul_nonneg z z
        · exact Int.mul_nonneg_of_nonpos_of_nonpos z z
      omega
    rcases Int.lt_or_le (mm g (i - (r + 1)) i i) 0 with z | z
    · have := Int.mul_neg_of_pos_of_neg p1 z
      omega
    · exact z
theorem sq_nonneg' (x : Int) : 0 ≤ x * x := by
  rcases Int.le_total 0 x with z | z
  · exact Int.mul_nonneg z z
  · exact Int.mul_nonneg_of_nonpos_of_nonpos z z
theorem mm_le (h : Sym g) (hp : PosD g n) (hn : n ≤ 4) {i : Nat} (hi : i < n) : ∀ k, k ≤ i → mm g k i i ≤ dd g k * g i i
  | 0, _ => by show g i i ≤ 1 * g i i; omega
  | k + 1, hk => by
    have ih := mm_le h hp hn hi k (by omega)
    have s := sylv h (k := k) (by omega) i i
    have p1 := hp (k + 1) (by omega)
    have p2 := hp k (by omega)
    have q := sq_nonneg' (mm g k i k)
    have a1 : dd g (k + 1) * mm g k i i ≤ dd g (k + 1) * (dd g k * g i i) := Int.mul_le_mul_of_nonneg_left ih (by omega)
    have a2 : dd g k * mm g (k + 1) i i ≤ dd g k * (dd g (k + 1) * g i i) := by
      have : dd g (k + 1) * (dd g k * g i i) = dd g k * (dd g (k + 1) * g i i) := by grind
      omega
    exact Int.le_of_mul_le_mul_left a2 p2
theorem hada (h : Sym g) (hp : PosD g n) (hn : n ≤ 4) {i : Nat} (hi : i < n) : dd g (i + 1) ≤ dd g i * g i i := mm_le h hp hn hi i (Nat.le_refl _)
theorem lam_sq (h : Sym g) (hp : PosD g n) (hn : n ≤ 4) {i k : Nat} (hi : i < n) (hk : k < i) : mm g k i k * mm g k i k ≤ dd g (k + 1) * (dd g k * g i i) := by
  have s := sylv h (k := k) (by omega) i i
  have p1 := hp (k + 1) (by omega)
  have p2 := hp k (by omega)
  have nn := mm_nonneg h hp hn hi (i - (k + 1)) (by omega)
  rw [show i - (i - (k + 1)) = k + 1 by omega] at nn
  have a1 : 0 ≤ dd g k * mm g (k + 1) i i := Int.mul_nonneg (by omega) nn
  have a2 := Int.mul_le_mul_of_nonneg_left (mm_le h hp hn hi k (by omega)) (Int.le_of_lt p1)
  omega
def Little (g : Nat → Nat → Int) (i j : Nat) : Prop := -dd g (j + 1) ≤ 2 * mm g j i j ∧ 2 * mm g j i j ≤ dd g (j + 1)
theorem Little.sq {i j : Nat} (h : Little g i j) : 4 * (mm g j i j * mm g j i j) ≤ dd g (j + 1) * dd g (j + 1) := by
  obtain ⟨a, b⟩ := h
  have := Int.mul_nonneg (show 0 ≤ dd g (j + 1) - 2 * mm g j i j by omega) (show 0 ≤ dd g (j + 1) + 2 * mm g j i j by omega)
  grind
theorem short_row (h : Sym g) (hp : PosD g n) (hn : n ≤ 4) {i : Nat} {M : Int} (hi : i < n) (hM : ∀ k, k ≤ n → dd g k ≤ M) (hl : ∀ j, j < i → Little g i j) : ∀ r, r ≤ i → mm g (i - r) i i ≤ dd g (i - r) * ((1 + r) * M)
  | 0, _ => by
    have := hM (i + 1) (by omega)
    have p := hp i (by omega)
    have e : dd g (i + 1) * 1 ≤ M * dd g i := Int.mul_le_mul this (by omega) (by decide) (by have := hp (i + 1) (by omega); omega)
    show dd g (i + 1) ≤ dd g i * ((1 + 0) * M)
    grind
  | r + 1, hr => by
    have ih := short_row h hp hn hi hM hl r (by omega)
    have s := sylv h (k := i - (r + 1)) (by omega) i i
    have li := (hl (i - (r + 1)) (by omega)).sq
    rw [show i - (r + 1) + 1 = i - r by omega] at s li
    have p1 := hp (i - r) (by omega)
    have p2 := hp (i - (r + 1)) (by omega)
    have m1 := hM (i - r) (by omega)
    generalize mm g (i - (r + 1)) i (i - (r + 1)) = l at *
    generalize mm g (i - (r + 1)) i i = x at *
    generalize mm g (i - r) i i = y at *
    generalize dd g (i - r) = d1 at *
    generalize dd g (i - (r + 1)) = d0 at *
    have a1 := Int.mul_le_mul_of_nonneg_left ih (Int.le_of_lt p2)
    have a2 : d1 * d1 ≤ d1 * (d0 * M) := Int.mul_le_mul_of_nonneg_left (by
      have : 1 * M ≤ d0 * M := Int.mul_le_mul_of_nonneg_right (by omega) (by omega)
      omega) (by omega)
    have e1 : d0 * (d1 * ((1 + (r : Int)) * M)) = d1 * (d0 * ((1 + (r : Int)) * M)) := by grind
    have l0 := sq_nonneg' l
    have a3 : d1 * x ≤ d1 * (d0 * ((1 + (r : Int)) * M) + d0 * M) := by
      rw [Int.mul_add]
      omega
    have a4 := Int.le_of_mul_le_mul_left a3 p1
    have e2 : d0 * ((1 + ((r + 1 : Nat) : Int)) * M) = d0 * ((1 + (r : Int)) * M) + d0 * M := by
      push_cast
      grind
    rw [e2]
    exact a4
end
def Lov (g : Nat → Nat → Int) (i : Nat) : Prop := dd g i * dd g i ≤ 2 * (dd g (i + 1) * dd g (i - 1))
structure Red (g : Nat → Nat → Int) (n : Nat) : Prop where
  little : ∀ i, i < n → ∀ j, j < i → Little g i j
  lov : ∀ i, 0 < i → i < n → Lov g i
section
variable {g : Nat → Nat → Int} {n : Nat}
theorem lov_far (hp : PosD g n) (hl : ∀ i, 0 < i → i < n → Lov g i) : ∀ r k, k + r < n → dd g (k + 1) * dd g (k + r) ≤ 2 ^ r * (dd g (k + r + 1) * dd g k)
  | 0, k, h => by
    show dd g (k + 1) * dd g k ≤ 1 * (dd g (k + 1) * dd g k)
    omega
  | r + 1, k, h => by
    have ih := lov_far hp hl r k (by omega)
    have l := hl (k + r + 1) (by omega) (by omega)
    unfold Lov at l
    rw [show k + r + 1 - 1 = k + r by omega] at l
    have p1 := hp (k + 1) (by omega)
    have p2 := hp (k + r) (by omega)
    have p3 := hp (k + r + 1) (by omega)
    have p4 := hp k (by omega)
    have p5 := hp (k + r + 1 + 1) (by omega)
    show dd g (k + 1) * dd g (k + r + 1) ≤ 2 ^ (r + 1) * (dd g (k + r + 1 + 1) * dd g k)
    generalize dd g (k + 1) = A at *
    generalize dd g (k + r) = B at *
    generalize dd g (k + r + 1) = C at *
    generalize dd g k = F at *
    generalize dd g (k + r + 1 + 1) = G at *
    have a1 : A * B * C ≤ 2 ^ r * (C * F) * C := Int.mul_le_mul_of_nonneg_right ih (by omega)
    have a2 : (2 ^ r * F) * (C * C) ≤ (2 ^ r * F) * (2 * (G * B)) := Int.mul_le_mul_of_nonneg_left l (Int.mul_nonneg (Int.pow_nonneg (by decide)) (by omega))
    have e1 : 2 ^ r * (C * F) * C = (2 ^ r * F) * (C * C) := by grind
    have e2 : (2 ^ r * F) * (2 * (G * B)) = (2 ^ (r + 1) * (G * F)) * B := by rw [Int.pow_succ]; grind
    have e3 : A * B * C = (A * C) * B := by grind
    have a3 : (A * C) * B ≤ (2 ^ (r + 1) * (G * F)) * B := by omega
    exact Int.le_of_mul_le_mul_right a3 p2
theorem row_far (h : Sym g) (hp : PosD g n) (hn : n ≤ 4) (hr : Red g n) {i : Nat} (hi : i < n) : ∀ r, r ≤ i → 2 * (mm g (i - r) i i * dd g i) ≤ (2 ^ r + 1) * (dd g (i - r) * dd g (i + 1))
  | 0, _ => by
    show 2 * (dd g (i + 1) * dd g i) ≤ (1 + 1) * (dd g i * dd g (i + 1))
    rw [Int.mul_comm (dd g i)]
    omega
  | r + 1, hr1 => by
    have ih := row_far h hp hn hr hi r (by omega)
    have s := sylv h (k := i - (r + 1)) (by omega) i i
    have li := (hr.little i hi (i - (r + 1)) (by omega)).sq
    have lf := lov_far hp hr.lov (r + 1) (i - (r + 1)) (by omega)
    rw [show i - (r + 1) + (r + 1) = i by omega] at lf
    rw [show i - (r + 1) + 1 = i - r by omega] at s li lf
    have p1 := hp (i - r) (by omega)
    have p2 := hp (i - (r + 1)) (by omega)
    have p3 := hp i (by omega)
    have p4 := hp (i + 1) (by omega)
    generalize mm g (i - (r + 1)) i (i - (r + 1)) = l at *
    generalize mm g (i - (r + 1)) i i = x at *
    generalize mm g (i - r) i i = y at *
    generalize dd g (i - r) = d1 at *
    generalize dd g (i - (r + 1)) = d0 at *
    generalize dd g i = A at *
    generalize dd g (i + 1) = B at *
    have a1 : d0 * (2 * (y * A)) ≤ d0 * ((2 ^ r + 1) * (d1 * B)) := Int.mul_le_mul_of_nonneg_left ih (by omega)
    have a2 : (4 * (l * l)) * A ≤ (d1 * d1) * A := Int.mul_le_mul_of_nonneg_right li (by omega)
    have a3 : d1 * (d1 * A) ≤ d1 * (2 ^ (r + 1) * (B * d0)) := Int.mul_le_mul_of_nonneg_left lf (by omega)
    have e0 : (2 : Int) ^ (r + 1) = 2 ^ r * 2 := Int.pow_succ ..
    have e1 : d1 * (2 * (x * A)) = d0 * (2 * (y * A)) + 2 * (l * l * A) := by grind
    have e2 : d1 * d1 * A = d1 * (d1 * A) := by grind
    have e3 : d1 * (2 ^ (r + 1) * (B * d0)) = 2 * (2 ^ r * (d0 * (d1 * B))) := by rw [e0]; grind
    have e4 : d0 * ((2 ^ r + 1) * (d1 * B)) = 2 ^ r * (d0 * (d1 * B)) + d0 * (d1 * B) := by grind
    have e5 : d1 * ((2 ^ (r + 1) + 1) * (d0 * B)) = 2 * (2 ^ r * (d0 * (d1 * B))) + d0 * (d1 * B) := by rw [e0]; grind
    have e6 : 4 * (l * l) * A = 4 * (l * l * A) := by grind
    have a4 : d1 * (2 * (x * A)) ≤ d1 * ((2 ^ (r + 1) + 1) * (d0 * B)) := by omega
    exact Int.le_of_mul_le_mul_left a4 p1
theorem row_two (h : Sym g) (hp : PosD g n) (hn : n ≤ 4) (hr : Red g n) {i : Nat} (hi : i < n) : g i i * dd g i ≤ 2 ^ i * dd g (i + 1) := by
  have a := row_far h hp hn hr hi i (Nat.le_refl _)
  rw [Nat.sub_self] at a
  have p := hp (i + 1) (by omega)
  have q : (1 : Int) ≤ 2 ^ i := Int.le_of_lt_add_one (by have := Int.pow_pos (n := 2) (m := i) (by decide); omega)
  have a2 : 2 * (g i i * dd g i) ≤ (2 ^ i + 1) * (1 * dd g (i + 1)) := a
  have a3 : 1 * dd g (i + 1) ≤ 2 ^ i * dd g (i + 1) := Int.mul_le_mul_of_nonneg_right q (by omega)
  rw [Int.one_mul, Int.add_mul, Int.one_mul] at a2
  rw [Int.one_mul] at a3
  omega
theorem first_far (hp : PosD g n) (hr : Red g n) {m : Nat} (hm : m < n) : g 0 0 * dd g m ≤ 2 ^ m * dd g (m + 1) := by
  have a := lov_far hp hr.lov m 0 (by omega)
  rw [show 0 + m = m by omega] at a
  have : dd g (m + 1) * dd g 0 = dd g (m + 1) := by show dd g (m + 1) * 1 = _; omega
  rw [this] at a
  exact a
end
end SF
namespace SF
def prodI (f : Nat → Int) : Nat → Int
  | 0 => 1
  | n + 1 => prodI f n * f n
def tri : Nat → Nat
  | 0 => 0
  | n + 1 => tri n + n
section
variable {g : Nat → Nat → Int} {n : Nat}
theorem prod_nonneg {f : Nat → Int} : ∀ {n : Nat}, (∀ i, i < n → 0 ≤ f i) → 0 ≤ prodI f n
  | 0, _ => by show (0 : Int) ≤ 1; decide
  | n + 1, h => Int.mul_nonneg (prod_nonneg fun i hi => h i (by omega)) (h n (by omega))
theorem prod_low (h : Sym g) (hp : PosD g n) (hn : n ≤ 4) : ∀ m, m ≤ n → dd g m ≤ prodI (fun i => g i i) m
  | 0, _ => Int.le_refl _
  | m + 1, hm => by
    have ih := prod_low h hp hn m (by omega)
    have a := hada h hp hn (i := m) (by omega)
    have b := mm_nonneg h hp hn (i := m) (by omega) m (Nat.le_refl _)
    rw [Nat.sub_self] at b
    have c : dd g m * g m m ≤ prodI (fun i => g i i) m * g m m := Int.mul_le_mul_of_nonneg_right ih b
    show _ ≤ prodI (fun i => g i i) m * g m m
    omega
theorem prod_up (h : Sym g) (hp : PosD g n) (hn : n ≤ 4) (hr : Red g n) : ∀ m, m ≤ n → prodI (fun i => g i i) m ≤ 2 ^ tri m * dd g m
  | 0, _ => Int.le_refl _
  | m + 1, hm => by
    have ih := prod_up h hp hn hr m (by omega)
    have a := row_two h hp hn hr (i := m) (by omega)
    have b := mm_nonneg h hp hn (i := m) (by omega) m (Nat.le_refl _)
    rw [Nat.sub_self] at b
    have c : prodI (fun i => g i i) m * g m m ≤ 2 ^ tri m * dd g m * g m m := Int.mul_le_mul_of_nonneg_right ih b
    have q : (0 : Int) ≤ 2 ^ tri m := Int.pow_nonneg (by decide)
    have d : 2 ^ tri m * (g m m * dd g m) ≤ 2 ^ tri m * (2 ^ m * dd g (m + 1)) := Int.mul_le_mul_of_nonneg_left a q
    have e1 : 2 ^ tri m * dd g m * g m m = 2 ^ tri m * (g m m * dd g m) := by grind
    have e2 : (2 : Int) ^ tri (m + 1) = 2 ^ tri m * 2 ^ m := Int.pow_add ..
    show prodI (fun i => g i i) m * g m m ≤ 2 ^ tri (m + 1) * dd g (m + 1)
    rw [e2, Int.mul_assoc]
    omega
end
def gr (W : Nat) (R : List Pt) (i j : Nat) : Int := wdot W (pe R i) (pe R j)
theorem gr_sym (W : Nat) (R : List Pt) : Sym (gr W R) := fun i j => wdot_comm W _ _
theorem wdot_self_nonneg (W : Nat) (p : Nat → Int) : 0 ≤ wdot W p p := by
  unfold wdot
  induction W with
  | zero => exact Int.le_refl _
  | succ W ih =>
    show 0 ≤ sumN W _ + p W * p W
    have := sq_nonneg' (p W)
    omega
theorem sq_le_wdot {W : Nat} {p : Nat → Int} {j : Nat} (hj : j < W) : p j * p j ≤ wdot W p p := by
  unfold wdot
  induction W with
  | zero => omega
  | succ W ih =>
    show _ ≤ sumN W _ + p W * p W
    by_cases z : j = W
    · rw [z]
      have : 0 ≤ sumN W fun j => p j * p j := wdot_self_nonneg W p
      omega
    · have := ih (by omega)
      have := sq_nonneg' (p W)
      omega
theorem wdot_four {W : Nat} {p0 p1 p2 p3 q : Nat → Int} {y0 y1 y2 y3 : Int} : wdot W (fun j => y0 * p0 j + y1 * p1 j + y2 * p2 j + y3 * p3 j) q = y0 * wdot W p0 q + y1 * wdot W p1 q + y2 * wdot W p2 q + y3 * wdot W p3 q := by
  unfold wdot
  induction W with
  | zero => simp [sumN]
  | succ W ih =>
    show sumN W _ + _ = y0 * (sumN W _ + _) + y1 * (sumN W _ + _) + y2 * (sumN W _ + _) + y3 * (sumN W _ + _)
    rw [ih]
    grind
theorem hnf_pos {W : Nat} {L : List Pt} {E : Nat → Nat} (h : Hnf W L E) (hn : L.length ≤ 4) : PosD (gr W L) L.length := by
  have key : ∀ k, k < L.length → ∀ y0 y1 y2 y3 : Int, (k = 0 → y0 ≠ 0 ∧ y1 = 0 ∧ y2 = 0 ∧ y3 = 0) → (k = 1 → y1 ≠ 0 ∧ y2 = 0 ∧ y3 = 0) → (k = 2 → y2 ≠ 0 ∧ y3 = 0) → (k = 3 → y3 ≠ 0) →
      0 < wdot W (fun j => y0 * pe L 0 j + y1 * pe L 1 j + y2 * pe L 2 j + y3 * pe L 3 j) (fun j => y0 * pe L 0 j + y1 * pe L 1 j + y2 * pe L 2 j + y3 * pe L 3 j) := by
    intro k hk y0 y1 y2 y3 c0 c1 c2 c3
    generalize hc : (fun j => y0 * pe L 0 j + y1 * pe L 1 j + y2 * pe L 2 j + y3 * pe L 3 j) = c
    have cj : ∀ j, c j = y0 * pe L 0 j + y1 * pe L 1 j + y2 * pe L 2 j + y3 * pe L 3 j := fun j => by rw [← hc]
    rcases Int.lt_or_le 0 (wdot W c c) with z | z
    · exact z
    exfalso
    have zero : ∀ j, j < W → c j = 0 := fun j hj => by
      have := sq_le_wdot (p := c) hj
      have h0 := sq_nonneg' (c j)
      have : c j * c j = 0 := by omega
      rcases Int.mul_eq_zero.mp this with q | q <;> exact q
    have z0 : ∀ i i', i < i' → i' ≤ k → pe L i' (E i) = 0 := fun i i' a b => h.zero i' (E i) (by omega) (h.mono i i' a (by omega))
    have p0 : ∀ i, i ≤ k → pe L i (E i) ≠ 0 := fun i a => by have := h.pos i (by omega); omega
    have zE : ∀ i, i ≤ k → y0 * pe L 0 (E i) + y1 * pe L 1 (E i) + y2 * pe L 2 (E i) + y3 * pe L 3 (E i) = 0 := fun i a => by rw [← cj]; exact zero _ (h.lt i (by omega))
    have pk : k = 0 ∨ k = 1 ∨ k = 2 ∨ k = 3 := by omega
    have s0 : y0 = 0 := by
      have e := zE 0 (by omega)
      have q := p0 0 (by omega)
      have e1 : y1 * pe L 1 (E 0) = 0 := by
        by_cases x : 1 ≤ k
        · rw [z0 0 1 (by omega) x, Int.mul_zero]
        · rw [(c0 (by omega)).2.1, Int.zero_mul]
      have e2 : y2 * pe L 2 (E 0) = 0 := by
        by_cases x : 2 ≤ k
        · rw [z0 0 2 (by omega) x, Int.mul_zero]
        · have : y2 = 0 := by
            rcases (show k = 0 ∨ k = 1 by omega) with w | w
            · exact (c0 w).2.2.1
            · exact (c1 w).2.1
          rw [this, Int.zero_mul]
      have e3 : y3 * pe L 3 (E 0) = 0 := by
        by_cases x : 3 ≤ k
        · rw [z0 0 3 (by omega) x, Int.mul_zero]
        · have : y3 = 0 := by
            rcases (show k = 0 ∨ k = 1 ∨ k = 2 by omega) with w | w | w
            · exact (c0 w).2.2.2
            · exact (c1 w).2.2
            · exact (c2 w).2
          rw [this, Int.zero_mul]
      have : y0 * pe L 0 (E 0) = 0 := by omega
      rcases Int.mul_eq_zero.mp this with w | w
      · exact w
      · exact absurd w q
    rcases pk with rfl | pk
    · exact (c0 rfl).1 s0
    have s1 : y1 = 0 := by
      have e := zE 1 (by omega)
      have q := p0 1 (by omega)
      rw [s0, Int.zero_mul] at e
      have e2 : y2 * pe L 2 (E 1) = 0 := by
        by_cases x : 2 ≤ k
        · rw [z0 1 2 (by omega) x, Int.mul_zero]
        · rw [(c1 (by omega)).2.1, Int.zero_mul]
      have e3 : y3 * pe L 3 (E 1) = 0 := by
        by_cases x : 3 ≤ k
        · rw [z0 1 3 (by omega) x, Int.mul_zero]
        · have : y3 = 0 := by
            rcases (show k = 1 ∨ k = 2 by omega) with w | w
            · exact (c1 w).2.2
            · exact (c2 w).2
          rw [this, Int.zero_mul]
      have : y1 * pe L 1 (E 1) = 0 := by omega
      rcases Int.mul_eq_zero.mp this with w | w
      · exact w
      · exact absurd w q
    rcases pk with rfl | pk
    · exact (c1 rfl).1 s1
    have s2 : y2 = 0 := by
      have e := zE 2 (by omega)
      have q := p0 2 (by omega)
      rw [s0, s1, Int.zero_mul, Int.zero_mul] at e
      have e3 : y3 * pe L 3 (E 2) = 0 := by
        by_cases x : 3 ≤ k
        · rw [z0 2 3 (by omega) x, Int.mul_zero]
        · rw [(c2 (by omega)).2, Int.zero_mul]
      have : y2 * pe L 2 (E 2) = 0 := by omega
      rcases Int.mul_eq_zero.mp this with w | w
      · exact w
      · exact absurd w q
    rcases pk with rfl | rfl
    · exact (c2 rfl).1 s2
    have e := zE 3 (by omega)
    have q := p0 3 (by omega)
    rw [s0, s1, s2, Int.zero_mul, Int.zero_mul, Int.zero_mul] at e
    have : y3 * pe L 3 (E 3) = 0 := by omega
    rcases Int.mul_eq_zero.mp this with w | w
    · exact c3 rfl w
    · exact absurd w q
  have S := gr_sym W L
  have exp : ∀ y0 y1 y2 y3 : Int, wdot W (fun j => y0 * pe L 0 j + y1 * pe L 1 j + y2 * pe L 2 j + y3 * pe L 3 j) (fun j => y0 * pe L 0 j + y1 * pe L 1 j + y2 * pe L 2 j + y3 * pe L 3 j) =
      y0 * (y0 * gr W L 0 0 + y1 * gr W L 0 1 + y2 * gr W L 0 2 + y3 * gr W L 0 3) + y1 * (y0 * gr W L 0 1 + y1 * gr W L 1 1 + y2 * gr W L 1 2 + y3 * gr W L 1 3) + y2 * (y0 * gr W L 0 2 + y1 * gr W L 1 2 + y2 * gr W L 2 2 + y3 * gr W L 2 3) + y3 * (y0 * gr W L 0 3 + y1 * gr W L 1 3 + y2 * gr W L 2 3 + y3 * gr W L 3 3) := fun y0 y1 y2 y3 => by
    rw [wdot_four, wdot_comm W (pe L 0), wdot_comm W (pe L 1), wdot_comm W (pe L 2), wdot_comm W (pe L 3), wdot_four, wdot_four, wdot_four, wdot_four]
    have a1 := S 1 0
    have a2 := S 2 0
    have a3 := S 3 0
    have a4 := S 2 1
    have a5 := S 3 1
    have a6 := S 3 2
    unfold gr at *
    rw [a1, a2, a3, a4, a5, a6]
  have a1 := S 1 0
  have a2 := S 2 0
  have a3 := S 3 0
  have a4 := S 2 1
  have a5 := S 3 1
  have a6 := S 3 2
  have step : ∀ k, k < L.length → 0 < dd (gr W L) k → 0 < dd (gr W L) k * dd (gr W L) (k + 1) := by
    intro k hk hd
    rcases (show k = 0 ∨ k = 1 ∨ k = 2 ∨ k = 3 by omega) with rfl | rfl | rfl | rfl
    · have := key 0 hk 1 0 0 0 (by simp) (by simp) (by simp) (by simp)
      rw [exp] at this
      refine Int.lt_of_lt_of_le this (Int.le_of_eq ?_)
      simp only [dd, mm]
      grind
    · have := key 1 hk (-gr W L 0 1) (dd (gr W L) 1) 0 0 (by simp) (fun _ => ⟨by omega, rfl, rfl⟩) (by simp) (by simp)
      rw [exp] at this
      refine Int.lt_of_lt_of_le this (Int.le_of_eq ?_)
      simp only [dd, mm, a1, a2, a3, a4, a5, a6]
      grind
    · have := key 2 hk (gr W L 0 1 * gr W L 1 2 - gr W L 0 2 * gr W L 1 1) (-(gr W L 0 0 * gr W L 1 2 - gr W L 0 2 * gr W L 0 1)) (dd (gr W L) 2) 0 (by simp) (by simp) (fun _ => ⟨by omega, rfl⟩) (by simp)
      rw [exp] at this
      refine Int.lt_of_lt_of_le this (Int.le_of_eq ?_)
      simp only [dd, mm, a1, a2, a3, a4, a5, a6]
      grind
    · have := key 3 hk
        (-(gr W L 0 1 * (gr W L 1 2 * gr W L 2 3 - gr W L 1 3 * gr W L 2 2) - gr W L 0 2 * (gr W L 1 1 * gr W L 2 3 - gr W L 1 3 * gr W L 1 2) + gr W L 0 3 * (gr W L 1 1 * gr W L 2 2 - gr W L 1 2 * gr W L 1 2)))
        (gr W L 0 0 * (gr W L 1 2 * gr W L 2 3 - gr W L 1 3 * gr W L 2 2) - gr W L 0 2 * (gr W L 0 1 * gr W L 2 3 - gr W L 1 3 * gr W L 0 2) + gr W L 0 3 * (gr W L 0 1 * gr W L 2 2 - gr W L 1 2 * gr W L 0 2))
        (-(gr W L 0 0 * (gr W L 1 1 * gr W L 2 3 - gr W L 1 3 * gr W L 1 2) - gr W L 0 1 * (gr W L 0 1 * gr W L 2 3 - gr W L 1 3 * gr W L 0 2) + gr W L 0 3 * (gr W L 0 1 * gr W L 1 2 - gr W L 1 1 * gr W L 0 2)))
        (dd (gr W L) 3) (by simp) (by simp) (by simp) (fun _ => by omega)
      rw [exp] at this
      refine Int.lt_of_lt_of_le this (Int.le_of_eq ?_)
      simp only [dd, mm, a1, a2, a3, a4, a5, a6]
      grind
  intro k
  induction k with
  | zero => intro _; show (0 : Int) < 1; decide
  | succ k ih =>
    intro hk
    have p := ih (by omega)
    have := step k (by omega) p
    rcases Int.lt_or_le 0 (dd (gr W L) (k + 1)) with z | z
    · exact z
    · have := Int.mul_nonpos_of_nonneg_of_nonpos (Int.le_of_lt p) z
      omega
end SF
namespace SF
def leanP (R : List Pt) (a o : Nat) (m : Int) : List Pt := R.set a (plusP (R.getD a []) (timesP (-m) (R.getD o [])))
def swapP (R : List Pt) (a : Nat) : List Pt := (R.set a (R.getD (a - 1) [])).set (a - 1) (R.getD a [])
def near (g : Nat → Nat → Int) (a o : Nat) : Int := (2 * mm g o a o + dd g (o + 1)).fdiv (2 * dd g (o + 1))
def Wd (W : Nat) (R : List Pt) : Prop := ∀ k, k < R.length → (R.getD k []).length = W
section
variable {W : Nat} {R : List Pt} {a o : Nat} {m : Int}
theorem getD_set {R : List Pt} {a : Nat} {q : Pt} (ha : a < R.length) (i : Nat) : (R.set a q).getD i [] = if i = a then q else R.getD i [] := by
  rw [List.getD_eq_getElem?_getD, List.getElem?_set]
  by_cases z : a = i
  · subst z
    rw [if_pos rfl, if_pos ha, if_pos rfl]; rfl
  · rw [if_neg z, if_neg (fun x => z x.symm), ← List.getD_eq_getElem?_getD]
theorem leanP_len : (leanP R a o m).length = R.length := by simp [leanP]
theorem swapP_len : (swapP R a).length = R.length := by simp [swapP]
theorem leanP_row (ha : a < R.length) (i : Nat) : (leanP R a o m).getD i [] = if i = a then plusP (R.getD a []) (timesP (-m) (R.getD o [])) else R.getD i [] := getD_set ha i
theorem leanP_pe (h : Wd W R) (ha : a < R.length) (ho : o < R.length) (i j : Nat) : pe (leanP R a o m) i j = if i = a then pe R a j - m * pe R o j else pe R i j := by
  unfold pe
  rw [leanP_row ha]
  split
  · rw [vf_plus (by rw [timesP_len, h a ha, h o ho]), vf_times, Int.neg_mul]
    omega
  · rfl
theorem leanP_wd (h : Wd W R) (ha : a < R.length) (ho : o < R.length) : Wd W (leanP R a o m) := fun k hk => by
  rw [leanP_len] at hk
  rw [leanP_row ha]
  split
  · rw [plusP_len, timesP_len, h a ha, h o ho]; omega
  · exact h k hk
theorem wdot_lin2 {n : Nat} {p q r : Nat → Int} (m : Int) : wdot n (fun j => q j - m * r j) p = wdot n q p - m * wdot n r p := by
  rw [wdot_comm, wdot_lin, wdot_comm n p q, wdot_comm n p r]
theorem gr_lean (h : Wd W R) (ha : a < R.length) (ho : o < R.length) : gr W (leanP R a o m) = gl (gr W R) a o m := by
  have e : ∀ i, pe (leanP R a o m) i = if i = a then (fun j => pe R a j - m * pe R o j) else pe R i := fun i => by
    funext j
    rw [leanP_pe h ha ho]
    split <;> rfl
  funext i j
  unfold gl
  show wdot W (pe (leanP R a o m) i) (pe (leanP R a o m) j) = _
  rw [e i, e j]
  by_cases hi : i = a
  · by_cases hj : j = a
    · rw [if_pos hi, if_pos hj, if_pos hi, if_pos hj, wdot_lin, wdot_lin2, wdot_lin2]
      unfold gr
      grind
    · rw [if_pos hi, if_neg hj, if_pos hi, if_neg hj, wdot_lin2]
      rfl
  · by_cases hj : j = a
    · rw [if_neg hi, if_pos hj, if_neg hi, if_pos hj, wdot_lin]
      rfl
    · rw [if_neg hi, if_neg hj, if_neg hi, if_neg hj]
      rfl
theorem swapP_row (h1 : 1 ≤ a) (ha : a < R.length) (i : Nat) : (swapP R a).getD i [] = R.getD (sw a i) [] := by
  unfold swapP sw
  rw [getD_set (by simp; omega), getD_set ha]
  by_cases x : i = a - 1
  · rw [if_pos x, if_neg (by omega), if_pos x]
  · rw [if_neg x]
    by_cases y : i = a
    · rw [if_pos y, if_pos y]
    · rw [if_neg y, if_neg y, if_neg x]
theorem sw_lt {n i : Nat} (ha : a < n) (hi : i < n) : sw a i < n := by unfold sw; split; omega; split <;> omega
theorem swapP_wd (h : Wd W R) (h1 : 1 ≤ a) (ha : a < R.length) : Wd W (swapP R a) := fun k hk => by
  rw [swapP_len] at hk
  rw [swapP_row h1 ha]
  exact h _ (sw_lt ha hk)
theorem gr_swap (h1 : 1 ≤ a) (ha : a < R.length) : gr W (swapP R a) = gs (gr W R) a := by
  funext i j
  show wdot W (pe (swapP R a) i) (pe (swapP R a) j) = wdot W (pe R (sw a i)) (pe R (sw a j))
  have e : ∀ i, pe (swapP R a) i = pe R (sw a i) := fun i => by
    funext j
    unfold pe
    rw [swapP_row h1 ha]
  rw [e, e]
theorem same_lean (h : Wd W R) (ha : a < R.length) (ho : o < R.length) (hoa : o ≠ a) : SameL (leanP R a o m) R := .of (fun k hk => by
    rw [leanP_len] at hk
    by_cases z : k = a
    · refine ((Lat.mem (g := pe R) ha).lin (Lat.mem (g := pe R) ho) (-m)).of fun j => ?_
      rw [leanP_pe h ha ho, if_pos z, Int.neg_mul]
      omega
    · exact (Lat.mem (g := pe R) hk).of fun j => by rw [leanP_pe h ha ho, if_neg z]) fun k hk => by
  have mk : ∀ i, i < R.length → Lat (leanP R a o m).length (pe (leanP R a o m)) (pe (leanP R a o m) i) := fun i hi => Lat.mem (by rw [leanP_len]; exact hi)
  have eo : Lat (leanP R a o m).length (pe (leanP R a o m)) (pe R o) := (mk o ho).of fun j => by rw [leanP_pe h ha ho, if_neg hoa]
  by_cases z : k = a
  · refine ((mk a ha).lin eo m).of fun j => ?_
    rw [leanP_pe h ha ho, if_pos rfl, z]
    omega
  · exact (mk k hk).of fun j => by rw [leanP_pe h ha ho, if_neg z]
theorem same_swap (h1 : 1 ≤ a) (ha : a < R.length) : SameL (swapP R a) R := by
  have e : ∀ i, pe (swapP R a) i = pe R (sw a i) := fun i => by
    funext j
    unfold pe
    rw [swapP_row h1 ha]
  have ss : ∀ i, sw a (sw a i) = i := fun i => by
    unfold sw
    by_cases x : i = a
    · rw [if_pos x, if_neg (by omega), if_pos rfl]; exact x.symm
    · rw [if_neg x]
      by_cases y : i = a - 1
      · rw [if_pos y, if_pos rfl]; exact y.symm
      · rw [if_neg y, if_neg x, if_neg y]
  refine .of (fun k hk => ?_) fun k hk => ?_
  · rw [swapP_len] at hk
    rw [e]
    exact Lat.mem (g := pe R) (sw_lt ha hk)
  · have := Lat.mem (g := pe (swapP R a)) (n := (swapP R a).length) (k := sw a k) (by rw [swapP_len]; exact sw_lt ha hk)
    rwa [e, ss] at this
end
def NB (D t : Nat) : Nat := D + 2 + t * (3 * D + 6)
structure LB (W n D : Nat) (R : List Pt) (a t : Nat) : Prop where
  n4 : n ≤ 4
  len : R.length = n
  wd : Wd W R
  pos : PosD (gr W R) n
  dle : ∀ k, k ≤ n → dd (gr W R) k ≤ 2 ^ D
  sz : ∀ i, i < n → i ≠ a → gr W R i i ≤ 2 ^ (D + 2)
  szA : a < n → gr W R a a ≤ 2 ^ NB D t
theorem near_ok {g : Nat → Nat → Int} {a o : Nat} (hd : 0 < dd g (o + 1)) : -dd g (o + 1) ≤ 2 * (mm g o a o - near g a o * dd g (o + 1)) ∧ 2 * (mm g o a o - near g a o * dd g (o + 1)) ≤ dd g (o + 1) := by
  unfold near
  have h1 := Int.mul_fdiv_add_fmod (2 * mm g o a o + dd g (o + 1)) (2 * dd g (o + 1))
  have h2 := fmod_pos (a := 2 * mm g o a o + dd g (o + 1)) (b := 2 * dd g (o + 1)) (by omega)
  generalize (2 * mm g o a o + dd g (o + 1)).fdiv (2 * dd g (o + 1)) = q at *
  have e : 2 * dd g (o + 1) * q = 2 * (q * dd g (o + 1)) := by grind
  omega
theorem near_sq {g : Nat → Nat → Int} {a o : Nat} (hd : 0 < dd g (o + 1)) : near g a o * near g a o ≤ 2 * (mm g o a o * mm g o a o) + 2 := by
  obtain ⟨h1, h2⟩ := near_ok (g := g) (a := a) hd
  generalize near g a o = m at *
  generalize mm g o a o = l at *
  generalize dd g (o + 1) = d at *
  have b1 : m ≤ (if 0 ≤ l then l else -l) + 1 := by
    rcases Int.lt_or_le m 2 with z | z
    · split <;> omega
    · have : 1 * (m - 1) ≤ d * (m - 1) := Int.mul_le_mul_of_nonneg_right (by omega) (by omega)
      have e : d * (m - 1) = m * d - d := by grind
      split <;> omega
  have b2 : -m ≤ (if 0 ≤ l then l else -l) + 1 := by
    rcases Int.lt_or_le (-m) 2 with z | z
    · split <;> omega
    · have : 1 * (-m - 1) ≤ d * (-m - 1) := Int.mul_le_mul_of_nonneg_right (by omega) (by omega)
      have e : d * (-m - 1) = -(m * d) - d := by grind
      split <;> omega
  generalize hx : (if 0 ≤ l then l else -l) = x at *
  have x0 : 0 ≤ x := by rw [← hx]; split <;> omega
  have xx : x * x = l * l := by rw [← hx]; split <;> grind
  have m2 : m * m ≤ (x + 1) * (x + 1) := by
    have := Int.mul_nonneg (show 0 ≤ x + 1 - m by omega) (show 0 ≤ x + 1 + m by omega)
    grind
  have s := sq_nonneg' (x - 1)
  grind
section
variable {W n D : Nat} {R : List Pt} {a o t : Nat}
theorem LB.lean (h : LB W n D R a t) (ho : o < a) (ha : a < n) : LB W n D (leanP R a o (near (gr W R) a o)) a (t + 1) ∧ Little (gr W (leanP R a o (near (gr W R) a o))) a o ∧
    (∀ i j, i < n → j < i → (i ≠ a ∨ o < j) → Little (gr W R) i j → Little (gr W (leanP R a o (near (gr W R) a o))) i j) ∧ (∀ k, k ≤ 4 → dd (gr W (leanP R a o (near (gr W R) a o))) k = dd (gr W R) k) ∧
    ∀ j, o < j → j ≤ a → mm (gr W (leanP R a o (near (gr W R) a o))) j a j = mm (gr W R) j a j := by
  have haR : a < R.length := by rw [h.len]; exact ha
  have hoR : o < R.length := by omega
  have S := gr_sym W R
  have n4 := h.n4
  have hd := h.pos (o + 1) (by omega)
  rw [gr_lean h.wd haR hoR]
  have nr := near_ok (g := gr W R) (a := a) hd
  have ns := near_sq (g := gr W R) (a := a) hd
  have ls := lam_sq S h.pos h.n4 ha ho
  have dl1 := h.dle (o + 1) (by omega)
  have dl0 := h.dle o (by omega)
  have dp0 := h.pos o (by omega)
  have sa := h.szA ha
  have so := h.sz o (by omega) (by omega)
  generalize near (gr W R) a o = m at *
  have ddl : ∀ k, k ≤ 4 → dd (gl (gr W R) a o m) k = dd (gr W R) k := fun k hk => dd_lean S ho (by omega) hk
  refine ⟨⟨h.n4, by rw [leanP_len]; exact h.len, leanP_wd h.wd haR hoR, ?_, ?_, ?_, ?_⟩, ?_, ?_, ddl, fun j h1 h2 => lam_same S ho (by omega) h1 h2⟩
  · rw [gr_lean h.wd haR hoR]
    intro k hk
    rw [ddl k (by omega)]
    exact h.pos k hk
  · rw [gr_lean h.wd haR hoR]
    intro k hk
    rw [ddl k (by omega)]
    exact h.dle k hk
  · rw [gr_lean h.wd haR hoR]
    intro i hi hia
    show gl (gr W R) a o m i i ≤ _
    unfold gl
    rw [if_neg hia, if_neg hia]
    exact h.sz i hi hia
  · rw [gr_lean h.wd haR hoR]
    intro _
    show gl (gr W R) a o m a a ≤ _
    unfold gl
    rw [if_pos rfl, if_pos rfl]
    have so1 := S o a
    have other : 0 ≤ gr W R a a + m * gr W R o a + m * gr W R a o + m * m * gr W R o o := by
      have w := wdot_self_nonneg W (fun j => pe R a j - (-m) * pe R o j)
      rw [wdot_lin, wdot_lin2, wdot_lin2] at w
      unfold gr
      grind
    have pow0 : ∀ x : Nat, (0 : Int) < 2 ^ x := fun x => Int.pow_pos (by decide)
    have gaa : 0 ≤ gr W R a a := wdot_self_nonneg W _
    have goo : 0 ≤ gr W R o o := wdot_self_nonneg W _
    have l2 : mm (gr W R) o a o * mm (gr W R) o a o ≤ 2 ^ D * (2 ^ D * 2 ^ NB D t) := by
      refine Int.le_trans ls ?_
      refine Int.mul_le_mul dl1 (Int.mul_le_mul dl0 sa gaa (Int.le_of_lt (pow0 _))) (Int.mul_nonneg (by omega) gaa) (Int.le_of_lt (pow0 _))
    have m2 : m * m * gr W R o o ≤ (2 * (2 ^ D * (2 ^ D * 2 ^ NB D t)) + 2) * 2 ^ (D + 2) := by
      refine Int.mul_le_mul (by omega) so goo ?_
      have := Int.mul_pos (pow0 D) (Int.mul_pos (pow0 D) (pow0 (NB D t)))
      omega
    have eN : NB D (t + 1) = NB D t + 3 * D + 6 := by unfold NB; rw [Nat.succ_mul]; omega
    have e1 : (2 : Int) ^ NB D (t + 1) = 64 * (2 ^ D * (2 ^ D * (2 ^ D * 2 ^ NB D t))) := by
      rw [eN, show NB D t + 3 * D + 6 = 6 + (D + (D + (D + NB D t))) by omega, Int.pow_add, Int.pow_add _ D, Int.pow_add _ D, Int.pow_add _ D]
      rfl
    have e2 : (2 : Int) ^ (D + 2) = 2 ^ D * 4 := Int.pow_add ..
    rw [e1]
    rw [e2] at m2
    have x0 := pow0 D
    have y0 := pow0 (NB D t)
    have x1 : (1 : Int) ≤ 2 ^ D := by omega
    have y1 : (1 : Int) ≤ 2 ^ NB D t := by omega
    generalize (2 : Int) ^ D = X at *
    generalize (2 : Int) ^ NB D t = Y at *
    have c1 : X * 1 ≤ X * Y := Int.mul_le_mul_of_nonneg_left y1 (by omega)
    have c2 : 1 * Y ≤ X * Y := Int.mul_le_mul_of_nonneg_right x1 (by omega)
    have c3 : 1 * (X * Y) ≤ X * (X * Y) := Int.mul_le_mul_of_nonneg_right x1 (by have := Int.mul_pos x0 y0; omega)
    have c4 : 1 * (X * (X * Y)) ≤ X * (X * (X * Y)) := Int.mul_le_mul_of_nonneg_right x1 (by have := Int.mul_pos x0 (Int.mul_pos x0 y0); omega)
    have e3 : (2 * (X * (X * Y)) + 2) * (X * 4) = 8 * (X * (X * (X * Y))) + 8 * X := by grind
    rw [e3] at m2
    have e4 : gr W R a a - m * gr W R o a - m * gr W R a o + m * m * gr W R o o = 2 * gr W R a a + 2 * (m * m * gr W R o o) - (gr W R a a + m * gr W R o a + m * gr W R a o + m * m * gr W R o o) := by omega
    rw [e4]
    omega
  · unfold Little
    rw [lam_at S ho (by omega), ddl (o + 1) (by omega)]
    exact nr
  · intro i j hi hj hc hl
    unfold Little at hl ⊢
    rw [ddl (j + 1) (by omega)]
    by_cases z : i = a
    · rcases hc with hc | hc
      · exact absurd z hc
      · rw [z] at hl ⊢
        rw [lam_same S ho (by omega) hc (by omega)]
        exact hl
    · rw [lam_other S ho (by omega) z (by omega) (by omega)]
      exact hl
end
end SF
namespace SF
structure LS (W n D : Nat) (R0 R : List Pt) (a : Nat) : Prop where
  h1 : 1 ≤ a
  lb : LB W n D R a (3 - a)
  little : ∀ i, i < a → i < n → ∀ j, j < i → Little (gr W R) i j
  lov : ∀ i, 0 < i → i < a → i < n → Lov (gr W R) i
  same : SameL R R0
  dn : dd (gr W R) n = dd (gr W R0) n
structure LEn (W n D : Nat) (R0 R : List Pt) (a r f : Nat) : Prop where
  h1 : 1 ≤ a
  an : a < n
  hr : r < a
  lb : LB W n D R a (4 - a + r)
  little : ∀ i, i < a → ∀ j, j < i → Little (gr W R) i j
  littleA : ∀ j, a - 1 - r ≤ j → j < a → Little (gr W R) a j
  lov : ∀ i, 0 < i → i < a + f → i < n → Lov (gr W R) i
  same : SameL R R0
  dn : dd (gr W R) n = dd (gr W R0) n
def leanedP (W : Nat) (R : List Pt) (a o : Nat) : List Pt := leanP R a o (near (gr W R) a o)
section
variable {W n D : Nat} {R0 R : List Pt} {a r f : Nat}
theorem LS.head (h : LS W n D R0 R a) (ha : a < n) : LEn W n D R0 (leanedP W R a (a - 1)) a 0 0 ∧ ∀ k, k ≤ 4 → dd (gr W (leanedP W R a (a - 1))) k = dd (gr W R) k := by
  have h1 := h.h1
  have n4 := h.lb.n4
  obtain ⟨b, l, o, d, _⟩ := h.lb.lean (o := a - 1) (by omega) ha
  refine ⟨⟨h1, ha, by omega, ?_, fun i hi j hj => o i j (by omega) hj (.inl (by omega)) (h.little i hi (by omega) j hj), fun j h2 h3 => ?_, fun i h2 h3 h4 => ?_, ?_, ?_⟩, d⟩
  · rw [show 4 - a + 0 = 3 - a + 1 by omega]
    exact b
  · rw [show j = a - 1 by omega]
    exact l
  · have := h.lov i h2 (by omega) h4
    unfold Lov at this ⊢
    unfold leanedP
    rw [d i (by omega), d (i + 1) (by omega), d (i - 1) (by omega)]
    exact this
  · exact (same_lean h.lb.wd (by rw [h.lb.len]; exact ha) (by rw [h.lb.len]; omega) (by omega)).trans h.same
  · unfold leanedP
    rw [d n n4]
    exact h.dn
theorem LEn.step (h : LEn W n D R0 R a r f) (hr : r + 1 < a) : LEn W n D R0 (leanedP W R a (a - 2 - r)) a (r + 1) f := by
  have h1 := h.h1
  have ha := h.an
  have n4 := h.lb.n4
  obtain ⟨b, l, o, d, _⟩ := h.lb.lean (o := a - 2 - r) (by omega) ha
  refine ⟨h1, ha, hr, ?_, fun i hi j hj => o i j (by omega) hj (.inl (by omega)) (h.little i hi j hj), fun j h2 h3 => ?_, fun i h2 h3 h4 => ?_, ?_, ?_⟩
  · rw [show 4 - a + (r + 1) = 4 - a + r + 1 by omega]
    exact b
  · by_cases z : j = a - 2 - r
    · rw [z]; exact l
    · exact o a j ha h3 (.inr (by omega)) (h.littleA j (by omega) h3)
  · have := h.lov i h2 h3 h4
    unfold Lov at this ⊢
    unfold leanedP
    rw [d i (by omega), d (i + 1) (by omega), d (i - 1) (by omega)]
    exact this
  · exact (same_lean h.lb.wd (by rw [h.lb.len]; exact ha) (by rw [h.lb.len]; omega) (by omega)).trans h.same
  · unfold leanedP
    rw [d n n4]
    exact h.dn
def fallsB (g : Nat → Nat → Int) (a : Nat) : Bool := decide (4 * dd g (a + 1) * dd g (a - 1) < 3 * dd g a * dd g a - 4 * mm g (a - 1) a (a - 1) * mm g (a - 1) a (a - 1))
theorem LEn.stays (h : LEn W n D R0 R a 0 0) (hf : fallsB (gr W R) a = false) : LEn W n D R0 R a 0 1 := by
  have h1 := h.h1
  have ha := h.an
  refine ⟨h1, ha, h.hr, h.lb, h.little, h.littleA, fun i h2 h3 h4 => ?_, h.same, h.dn⟩
  by_cases z : i < a
  · exact h.lov i h2 (by omega) h4
  · have z : i = a := by omega
    have l := (h.littleA (a - 1) (by omega) (by omega)).sq
    rw [show a - 1 + 1 = a by omega] at l
    have nf := of_decide_eq_false hf
    rw [z]
    unfold Lov
    generalize mm (gr W R) (a - 1) a (a - 1) = x at *
    generalize dd (gr W R) a = A at *
    generalize dd (gr W R) (a + 1) = B at *
    generalize dd (gr W R) (a - 1) = C at *
    have e1 : 4 * B * C = 4 * (B * C) := by grind
    have e2 : 3 * A * A = 3 * (A * A) := by grind
    have e3 : 4 * x * x = 4 * (x * x) := by grind
    omega
theorem two_pow_le {a b : Nat} (h : a ≤ b) : (2 : Int) ^ a ≤ 2 ^ b := by
  have := Nat.pow_le_pow_right (show 1 ≤ 2 by decide) h
  exact_mod_cast this
theorem LEn.done (h : LEn W n D R0 R a (a - 1) 1) : LS W n D R0 R (a + 1) := by
  have h1 := h.h1
  have ha := h.an
  have n4 := h.lb.n4
  have li : ∀ i, i < a + 1 → i < n → ∀ j, j < i → Little (gr W R) i j := fun i hi hn j hj => by
    by_cases z : i < a
    · exact h.little i z j hj
    · have z : i = a := by omega
      rw [z] at hj ⊢
      exact h.littleA j (by omega) hj
  have sa : gr W R a a ≤ 2 ^ (D + 2) := by
    have s := short_row (gr_sym W R) h.lb.pos h.lb.n4 ha h.lb.dle (fun j hj => li a (by omega) ha j hj) a (Nat.le_refl _)
    rw [Nat.sub_self] at s
    have s : gr W R a a ≤ 1 * ((1 + (a : Int)) * 2 ^ D) := s
    have e : (2 : Int) ^ (D + 2) = 4 * 2 ^ D := by rw [Int.pow_add, Int.mul_comm]; rfl
    have q : (1 + (a : Int)) * 2 ^ D ≤ 4 * 2 ^ D := Int.mul_le_mul_of_nonneg_right (by omega) (Int.pow_nonneg (by decide))
    omega
  refine ⟨by omega, ⟨h.lb.n4, h.lb.len, h.lb.wd, h.lb.pos, h.lb.dle, fun i hi _ => ?_, fun hi => ?_⟩, li, h.lov, h.same, h.dn⟩
  · by_cases z : i = a
    · rw [z]; exact sa
    · exact h.lb.sz i hi z
  · exact Int.le_trans (h.lb.sz (a + 1) hi (by omega)) (two_pow_le (by unfold NB; omega))
def pd (g : Nat → Nat → Int) : Nat → Nat
  | 0 => 1
  | k + 1 => pd g k * (dd g (k + 1)).toNat
theorem pd_less {g g' : Nat → Nat → Int} {n a : Nat} (hp : PosD g n) (hp' : PosD g' n) (h1 : 1 ≤ a) (hs : ∀ k, k ≤ n → k ≠ a → dd g' k = dd g k) (hl : dd g' a < dd g a) : ∀ m, m ≤ n → (m < a → pd g' m = pd g m) ∧ (a ≤ m → pd g' m < pd g m) ∧ 0 < pd g m
  | 0, _ => ⟨fun _ => rfl, fun z => absurd z (by omega), by show 0 < 1; decide⟩
  | m + 1, hm => by
    obtain ⟨i1, i2, i3⟩ := pd_less hp hp' h1 hs hl m (by omega)
    have p := hp (m + 1) hm
    refine ⟨fun z => ?_, fun z => ?_, Nat.mul_pos i3 (by omega)⟩
    · show pd g' m * (dd g' (m + 1)).toNat = _
      rw [i1 (by omega), hs (m + 1) hm (by omega)]; rfl
    · show pd g' m * (dd g' (m + 1)).toNat < pd g m * (dd g (m + 1)).toNat
      by_cases e : a = m + 1
      · rw [i1 (by omega)]
        rw [e] at hl
        exact Nat.mul_lt_mul_of_pos_left (by omega) i3
      · rw [hs (m + 1) hm (by omega)]
        exact Nat.mul_lt_mul_of_pos_right (i2 (by omega)) (by omega)
def ms (W n : Nat) (R : List Pt) (a : Nat) : Nat := pd (gr W R) n * (n + 2) + (n - a)
theorem pd_same {g g' : Nat → Nat → Int} (h : ∀ k, k ≤ 4 → dd g' k = dd g k) : ∀ m, m ≤ 4 → pd g' m = pd g m
  | 0, _ => rfl
  | m + 1, hm => by
    show pd g' m * _ = pd g m * _
    rw [pd_same h m (by omega), h (m + 1) hm]
theorem LEn.swap (h : LEn W n D R0 R a 0 0) (hf : fallsB (gr W R) a = true) : LS W n D R0 (swapP R a) (max (a - 1) 1) ∧ pd (gr W (swapP R a)) n < pd (gr W R) n := by
  have h1 := h.h1
  have ha := h.an
  have n4 := h.lb.n4
  have haR : a < R.length := by rw [h.lb.len]; exact ha
  have S := gr_sym W R
  have fl := of_decide_eq_true hf
  have mid := dd_mid S h1 (show a ≤ 3 by omega)
  have ds : ∀ k, k ≤ 4 → k ≠ a → dd (gs (gr W R) a) k = dd (gr W R) k := fun k hk hka => dd_swap S h1 (by omega) hk hka
  have pa := h.lb.pos a (by omega)
  have pa1 := h.lb.pos (a + 1) (by omega)
  have pa0 := h.lb.pos (a - 1) (by omega)
  have less : 0 < dd (gs (gr W R) a) a ∧ dd (gs (gr W R) a) a < dd (gr W R) a := by
    have q := Int.mul_pos pa1 pa0
    have s := sq_nonneg' (mm (gr W R) (a - 1) a (a - 1))
    generalize mm (gr W R) (a - 1) a (a - 1) = x at *
    generalize dd (gs (gr W R) a) a = Y at *
    generalize dd (gr W R) a = A at *
    generalize dd (gr W R) (a + 1) = B at *
    generalize dd (gr W R) (a - 1) = C at *
    have e1 : 4 * B * C = 4 * (B * C) := by grind
    have e2 : 3 * A * A = 3 * (A * A) := by grind
    have e3 : 4 * x * x = 4 * (x * x) := by grind
    have aa := Int.mul_pos pa pa
    constructor
    · rcases Int.lt_or_le 0 Y with z | z
      · exact z
      · have := Int.mul_nonpos_of_nonpos_of_nonneg z (Int.le_of_lt pa)
        omega
    · rcases Int.lt_or_le Y A with z | z
      · exact z
      · have := Int.mul_le_mul_of_nonneg_right z (Int.le_of_lt pa)
        omega
  have pos' : PosD (gs (gr W R) a) n := fun k hk => by
    by_cases z : k = a
    · rw [z]; exact less.1
    · rw [ds k (by omega) z]; exact h.lb.pos k hk
  have dle' : ∀ k, k ≤ n → dd (gs (gr W R) a) k ≤ 2 ^ D := fun k hk => by
    by_cases z : k = a
    · rw [z]; exact Int.le_of_lt (Int.lt_of_lt_of_le less.2 (h.lb.dle a (by omega)))
    · rw [ds k (by omega) z]; exact h.lb.dle k hk
  have D2 : (2 : Int) ^ D ≤ 2 ^ (D + 2) := two_pow_le (by omega)
  have hgs := gr_swap (W := W) h1 haR
  refine ⟨⟨by omega, ⟨h.lb.n4, by rw [swapP_len]; exact h.lb.len, swapP_wd h.lb.wd h1 haR, by rw [hgs]; exact pos', by rw [hgs]; exact dle', ?_, ?_⟩, ?_, ?_, ?_, ?_⟩, ?_⟩
  · rw [hgs]
    intro i hi hia
    show gr W R (sw a i) (sw a i) ≤ _
    by_cases z : sw a i = a
    · -- the row that came down to the first place
      have i0 : i = a - 1 := by
        unfold sw at z
        by_cases x : i = a
        · rw [if_pos x] at z; omega
        · rw [if_neg x] at z
          by_cases y : i = a - 1
          · exact y
          · rw [if_neg y] at z; omega
      have a1 : a = 1 := by omega
      have := dle' 1 (by omega)
      rw [z]
      have e : dd (gs (gr W R) a) 1 = gr W R a a := by
        show gr W R (sw a 0) (sw a 0) = _
        rw [show (0 : Nat) = i by omega, z]
      rw [e] at this
      omega
    · exact h.lb.sz _ (sw_lt ha hi) z
  · rw [hgs]
    intro hm
    show gr W R (sw a (max (a - 1) 1)) (sw a (max (a - 1) 1)) ≤ _
    by_cases a1 : a = 1
    · subst a1
      have e : sw 1 (max (1 - 1) 1) = 0 := by decide
      rw [e]
      exact Int.le_trans (h.lb.sz 0 (by omega) (by omega)) (two_pow_le (by unfold NB; omega))
    · rw [show max (a - 1) 1 = a - 1 by omega]
      have e : sw a (a - 1) = a := by unfold sw; rw [if_neg (by omega), if_pos rfl]
      rw [e, show 3 - (a - 1) = 4 - a + 0 by omega]
      exact h.lb.szA ha
  · rw [hgs]
    intro i hi hin j hj
    have := h.little i (by omega) j hj
    unfold Little at this ⊢
    rw [ds (j + 1) (by omega) (by omega), mm_swap h1 (by omega) (by omega) (by omega) (by omega)]
    exact this
  · rw [hgs]
    intro i h2 h3 h4
    have := h.lov i h2 (by omega) h4
    unfold Lov at this ⊢
    rw [ds i (by omega) (by omega), ds (i + 1) (by omega) (by omega), ds (i - 1) (by omega) (by omega)]
    exact this
  · exact (same_swap h1 haR).trans h.same
  · rw [hgs, ds n n4 (by omega)]
    exact h.dn
  · rw [hgs]
    exact (pd_less h.lb.pos pos' h1 (fun k hk hka => ds k (by omega) hka) less.2 n (Nat.le_refl _)).2.1 (by omega)
theorem LS.red (h : LS W n D R0 R a) (ha : n ≤ a) : Red (gr W R) n := ⟨fun i hi j hj => h.little i (by omega) hi j hj, fun i h1 h2 => h.lov i h1 (by omega) h2⟩
theorem bd_of_sq {Y : Nat} {x : Int} (h : x * x ≤ 2 ^ (2 * Y)) : x.natAbs ≤ 2 ^ Y := by
  have e : ((x.natAbs * x.natAbs : Nat) : Int) = x * x := by
    rw [Int.natCast_mul]
    exact Int.natAbs_mul_self' x
  have q : x.natAbs * x.natAbs ≤ 2 ^ Y * 2 ^ Y := by
    have p : 2 ^ Y * 2 ^ Y = 2 ^ (2 * Y) := by rw [← Nat.pow_add, Nat.two_mul]
    rw [p]
    have : ((x.natAbs * x.natAbs : Nat) : Int) ≤ ((2 ^ (2 * Y) : Nat) : Int) := by rw [e]; push_cast; exact h
    exact_mod_cast this
  exact Nat.mul_self_le_mul_self_iff.mp q
theorem LB.bd {t : Nat} (h : LB W n D R a t) (ht : t ≤ 3) : ∀ p ∈ R, p.length = W ∧ Bd (5 * D + 11) p := fun p hp => by
  obtain ⟨i, hi, rfl⟩ := List.mem_iff_getElem.mp hp
  have eg : R.getD i [] = R[i] := by rw [List.getD_eq_getElem?_getD, List.getElem?_eq_getElem hi]; rfl
  have hl := h.wd i hi
  rw [eg] at hl
  have hin : i < n := by rw [← h.len]; exact hi
  have sz : gr W R i i ≤ 2 ^ (2 * (5 * D + 10)) := by
    by_cases z : i = a
    · rw [z]
      refine Int.le_trans (h.szA (by omega)) (two_pow_le ?_)
      unfold NB
      have : t * (3 * D + 6) ≤ 3 * (3 * D + 6) := Nat.mul_le_mul_right _ ht
      omega
    · exact Int.le_trans (h.sz i hin z) (two_pow_le (by omega))
  refine ⟨hl, bd_of fun j => ?_⟩
  by_cases hj : j < W
  · have := sq_le_wdot (W := W) (p := pe R i) hj
    have := bd_of_sq (Int.le_trans this sz)
    unfold pe at this
    rwa [eg] at this
  · rw [vf_beyond (by omega)]
    exact Nat.zero_le _
theorem gr_bd {X : Nat} (hW : W ≤ 4) (hb : ∀ p ∈ R, Bd X p) (i j : Nat) : (gr W R i j).natAbs ≤ 2 ^ (2 * X + 2) := by
  have b : ∀ i j, (pe R i j).natAbs ≤ 2 ^ X := fun i j => by
    unfold pe
    by_cases hi : i < R.length
    · rw [List.getD_eq_getElem?_getD, List.getElem?_eq_getElem hi]
      exact Nat.le_of_lt (vf_bd (hb _ (List.getElem_mem hi)) j)
    · rw [List.getD_eq_getElem?_getD, List.getElem?_eq_none (by omega)]
      exact Nat.zero_le _
  have := wdot_bd (W := W) (fun k => b i k) (fun k => b j k)
  refine Nat.le_trans this ?_
  have e : 2 ^ (2 * X + 2) = 4 * (2 ^ X * 2 ^ X) := by rw [← Nat.pow_add, Nat.pow_add 2 (2 * X), Nat.two_mul, Nat.mul_comm]
  rw [e]
  exact Nat.mul_le_mul_right _ hW
theorem prod_bd {g : Nat → Nat → Int} {B : Nat} (h : ∀ i, g i i ≤ 2 ^ B) (h0 : ∀ i, 0 ≤ g i i) : ∀ m, prodI (fun i => g i i) m ≤ 2 ^ (m * B)
  | 0 => by rw [Nat.zero_mul]; exact Int.le_refl _
  | m + 1 => by
    rw [Nat.succ_mul, Int.pow_add]
    exact Int.mul_le_mul (prod_bd h h0 m) (h m) (h0 m) (Int.pow_nonneg (by decide))
theorem LS.start {E : Nat → Nat} {X : Nat} (h : Hnf W R E) (hW : W ≤ 4) (hb : ∀ p ∈ R, Bd X p) : LS W R.length (8 * X + 8) R R 1 := by
  have hn := h.nW
  have pos := hnf_pos h (by omega)
  have gi : ∀ i, gr W R i i ≤ 2 ^ (2 * X + 2) := fun i => by
    have := gr_bd hW hb i i
    have g0 : 0 ≤ gr W R i i := wdot_self_nonneg W _
    have e : ((gr W R i i).natAbs : Int) = gr W R i i := Int.natAbs_of_nonneg g0
    rw [← e]
    exact_mod_cast this
  have dle : ∀ k, k ≤ R.length → dd (gr W R) k ≤ 2 ^ (8 * X + 8) := fun k hk => by
    refine Int.le_trans (prod_low (gr_sym W R) pos (by omega) k hk) (Int.le_trans (prod_bd gi (fun i => wdot_self_nonneg W _) k) (two_pow_le ?_))
    have : k * (2 * X + 2) ≤ 4 * (2 * X + 2) := Nat.mul_le_mul_right _ (by omega)
    omega
  refine ⟨Nat.le_refl _, ⟨by omega, rfl, h.len, pos, dle, fun i _ _ => Int.le_trans (gi i) (two_pow_le (by omega)), fun _ => Int.le_trans (gi 1) (two_pow_le (by unfold NB; omega))⟩, fun i hi _ j hj => by omega, fun i h1 h2 _ => by omega, fun f => Iff.rfl, rfl⟩
theorem mul_bd {x y : Int} {A B : Nat} (hx : x.natAbs ≤ A) (hy : y.natAbs ≤ B) : (x * y).natAbs ≤ A * B := by
  rw [Int.natAbs_mul]; exact Nat.mul_le_mul hx hy
theorem mm_bd {g : Nat → Nat → Int} {G : Nat} (hG : 1 ≤ G) (h : ∀ i j, (g i j).natAbs ≤ G) (k i j : Nat) : (mm g k i j).natAbs ≤ 24 * (G * G * G * G) := by
  have t2 : ∀ {a b c d : Int}, a.natAbs ≤ G → b.natAbs ≤ G → c.natAbs ≤ G → d.natAbs ≤ G → (a * b - c * d).natAbs ≤ 2 * (G * G) := fun {a b c d} h1 h2 h3 h4 => by
    have := mul_bd h1 h2
    have := mul_bd h3 h4
    omega
  have g1 : G * 1 ≤ G * G := Nat.mul_le_mul_left _ hG
  have g2 : (G * G) * 1 ≤ (G * G) * G := Nat.mul_le_mul_left _ hG
  have g3 : (G * G * G) * 1 ≤ (G * G * G) * G := Nat.mul_le_mul_left _ hG
  have t3 : ∀ {a b c x y z : Int}, a.natAbs ≤ G → b.natAbs ≤ G → c.natAbs ≤ G → x.natAbs ≤ 2 * (G * G) → y.natAbs ≤ 2 * (G * G) → z.natAbs ≤ 2 * (G * G) → (a * x - b * y + c * z).natAbs ≤ 6 * (G * G * G) := fun {a b c x y z} h1 h2 h3 h4 h5 h6 => by
    have q1 := mul_bd h1 h4
    have q2 := mul_bd h2 h5
    have q3 := mul_bd h3 h6
    have e : G * (2 * (G * G)) = 2 * (G * G * G) := by grind
    rw [e] at q1 q2 q3
    omega
  have t4 : ∀ {a x : Int}, a.natAbs ≤ G → x.natAbs ≤ 6 * (G * G * G) → (a * x).natAbs ≤ 6 * (G * G * G * G) := fun {a x} h1 h2 => by
    have q := mul_bd h1 h2
    have e : G * (6 * (G * G * G)) = 6 * (G * G * G * G) := by grind
    rwa [e] at q
  rcases k with _ | _ | _ | k
  · show (g i j).natAbs ≤ _
    have := h i j
    omega
  · have := t2 (h 0 0) (h i j) (h i 0) (h 0 j)
    show (g 0 0 * g i j - g i 0 * g 0 j).natAbs ≤ _
    omega
  · have q := t3 (h 0 0) (h 0 1) (h 0 j) (t2 (h 1 1) (h i j) (h i 1) (h 1 j)) (t2 (h 1 0) (h i j) (h 1 j) (h i 0)) (t2 (h 1 0) (h i 1) (h 1 1) (h i 0))
    simp only [mm]
    omega
  · have q1 := t4 (h 0 0) (t3 (h 1 1) (h 1 2) (h 1 j) (t2 (h 2 2) (h i j) (h 2 j) (h i 2)) (t2 (h 2 1) (h i j) (h 2 j) (h i 1)) (t2 (h 2 1) (h i 2) (h 2 2) (h i 1)))
    have q2 := t4 (h 0 1) (t3 (h 1 0) (h 1 2) (h 1 j) (t2 (h 2 2) (h i j) (h 2 j) (h i 2)) (t2 (h 2 0) (h i j) (h 2 j) (h i 0)) (t2 (h 2 0) (h i 2) (h 2 2) (h i 0)))
    have q3 := t4 (h 0 2) (t3 (h 1 0) (h 1 1) (h 1 j) (t2 (h 2 1) (h i j) (h 2 j) (h i 1)) (t2 (h 2 0) (h i j) (h 2 j) (h i 0)) (t2 (h 2 0) (h i 1) (h 2 1) (h i 0)))
    have q4 := t4 (h 0 j) (t3 (h 1 0) (h 1 1) (h 1 2) (t2 (h 2 1) (h i 2) (h 2 2) (h i 1)) (t2 (h 2 0) (h i 2) (h 2 2) (h i 0)) (t2 (h 2 0) (h i 1) (h 2 1) (h i 0)))
    simp only [mm]
    omega
structure PartsOk (W X : Nat) (R : List Pt) : Prop where
  w : W ≤ 4
  n : R.length ≤ 4
  row : ∀ p ∈ R, p.length = W ∧ Bd X p
  pos : PosD (gr W R) R.length
  bit : 16 * X + 60 < 100000000
theorem PartsOk.mm {X : Nat} (h : PartsOk W X R) (k i j : Nat) : (SF.mm (gr W R) k i j).natAbs < 2 ^ (8 * X + 14) := by
  have := mm_bd (G := 2 ^ (2 * X + 2)) Nat.one_le_two_pow (gr_bd h.w fun p hp => (h.row p hp).2) k i j
  have e : 2 ^ (8 * X + 14) = 64 * (2 ^ (2 * X + 2) * 2 ^ (2 * X + 2) * 2 ^ (2 * X + 2) * 2 ^ (2 * X + 2)) := by
    rw [← Nat.pow_add, ← Nat.pow_add, ← Nat.pow_add, show 8 * X + 14 = 6 + (2 * X + 2 + (2 * X + 2) + (2 * X + 2) + (2 * X + 2)) by omega, Nat.pow_add]
  have p : 0 < 2 ^ (2 * X + 2) * 2 ^ (2 * X + 2) * 2 ^ (2 * X + 2) * 2 ^ (2 * X + 2) := by
    rw [← Nat.pow_add, ← Nat.pow_add, ← Nat.pow_add]; exact Nat.two_pow_pos _
  omega
theorem PartsOk.dd {X : Nat} (h : PartsOk W X R) (k : Nat) : (SF.dd (gr W R) k).natAbs < 2 ^ (8 * X + 14) := by
  rcases k with _ | k
  · show (1 : Int).natAbs < _
    have : 2 ^ 1 ≤ 2 ^ (8 * X + 14) := Nat.pow_le_pow_right (by decide) (by omega)
    show 1 < _
    omega
  · exact h.mm k k k
theorem LB.parts {t : Nat} (h : LB W n D R a t) (ht : t ≤ 3) (hW : W ≤ 4) (hD : D ≤ 1000000) : PartsOk W (5 * D + 11) R := ⟨hW, by rw [h.len]; exact h.n4, h.bd ht, by rw [h.len]; exact h.pos, by omega⟩
theorem LEn.t3 (h : LEn W n D R0 R a r f) : 4 - a + r ≤ 3 := by
  have := h.hr
  have := h.h1
  have := h.an
  have := h.lb.n4
  omega
end
end SF
namespace SF
def gv (g : Nat → Nat → Int) (m : Nat) (c : Nat → Int) (i j : Nat) : Int :=
  if i = m then (if j = m then c 0 * (c 0 * g 0 0 + c 1 * g 0 1 + c 2 * g 0 2 + c 3 * g 0 3) + c 1 * (c 0 * g 0 1 + c 1 * g 1 1 + c 2 * g 1 2 + c 3 * g 1 3) + c 2 * (c 0 * g 0 2 + c 1 * g 1 2 + c 2 * g 2 2 + c 3 * g 2 3) + c 3 * (c 0 * g 0 3 + c 1 * g 1 3 + c 2 * g 2 3 + c 3 * g 3 3)
    else c 0 * g 0 j + c 1 * g 1 j + c 2 * g 2 j + c 3 * g 3 j) else (if j = m then c 0 * g 0 i + c 1 * g 1 i + c 2 * g 2 i + c 3 * g 3 i else g i j)
theorem gv_sym {g : Nat → Nat → Int} (h : Sym g) (m : Nat) (c : Nat → Int) : Sym (gv g m c) := fun i j => by
  unfold gv
  by_cases x : i = m
  · by_cases y : j = m
    · rw [if_pos x, if_pos y, if_pos y, if_pos x]
    · rw [if_pos x, if_neg y, if_neg y, if_pos x]
  · by_cases y : j = m
    · rw [if_neg x, if_pos y, if_pos y, if_neg x]
    · rw [if_neg x, if_neg y, if_neg y, if_neg x]
      exact h i j
theorem dd_gv {g : Nat → Nat → Int} (h : Sym g) {m : Nat} (hm : m ≤ 3) {c : Nat → Int} (hc : ∀ l, m < l → c l = 0) : (∀ k, k ≤ m → dd (gv g m c) k = dd g k) ∧ dd (gv g m c) (m + 1) = c m * c m * dd g (m + 1) := by
  have a1 := h 1 0
  have a2 := h 2 0
  have a3 := h 3 0
  have a4 := h 2 1
  have a5 := h 3 1
  have a6 := h 3 2
  have pm : m = 0 ∨ m = 1 ∨ m = 2 ∨ m = 3 := by omega
  refine ⟨fun k hk => ?_, ?_⟩
  · have pk : k = 0 ∨ k = 1 ∨ k = 2 ∨ k = 3 := by omega
    rcases pk with rfl | rfl | rfl | rfl
    · rfl
    · rcases pm with rfl | rfl | rfl | rfl <;> first | omega | (simp only [dd, mm, gv]; simp)
    · rcases pm with rfl | rfl | rfl | rfl <;> first | omega | (simp only [dd, mm, gv]; simp)
    · rcases pm with rfl | rfl | rfl | rfl <;> first | omega | (simp only [dd, mm, gv]; simp)
  · rcases pm with rfl | rfl | rfl | rfl
    · have c1 := hc 1 (by omega)
      have c2 := hc 2 (by omega)
      have c3 := hc 3 (by omega)
      simp only [dd, mm, gv, c1, c2, c3]
      simp
      grind
    · have c2 := hc 2 (by omega)
      have c3 := hc 3 (by omega)
      simp only [dd, mm, gv, c2, c3]
      simp
      grind
    · have c3 := hc 3 (by omega)
      simp only [dd, mm, gv, c3]
      simp
      grind
    · simp only [dd, mm, gv]
      simp
      grind
theorem far {g : Nat → Nat → Int} {n : Nat} (h : Sym g) (hp : PosD g n) (hn : n ≤ 4) {m : Nat} (hm : m < n) {c : Nat → Int} (hc : ∀ l, m < l → c l = 0) (h0 : c m ≠ 0) : dd g (m + 1) ≤ dd g m * gv g m c m m := by
  obtain ⟨d1, d2⟩ := dd_gv h (show m ≤ 3 by omega) hc
  have p := hp (m + 1) (by omega)
  have cc : 1 ≤ c m * c m := by
    have := sq_nonneg' (c m)
    have : c m * c m ≠ 0 := Int.mul_ne_zero h0 h0
    omega
  have up : 1 * dd g (m + 1) ≤ c m * c m * dd g (m + 1) := Int.mul_le_mul_of_nonneg_right cc (by omega)
  have pos : PosD (gv g m c) (m + 1) := fun k hk => by
    by_cases z : k = m + 1
    · rw [z, d2]; omega
    · rw [d1 k (by omega)]; exact hp k (by omega)
  have := hada (gv_sym h m c) pos (by omega) (i := m) (by omega)
  rw [d2, d1 m (Nat.le_refl _)] at this
  omega
section
variable {W n : Nat} {R S : List Pt}
theorem sum4 {n : Nat} (hn : n ≤ 4) (f : Nat → Int) (h : ∀ i, n ≤ i → i < 4 → f i = 0) : sumN n f = f 0 + f 1 + f 2 + f 3 := by
  have e4 : sumN 4 f = f 0 + f 1 + f 2 + f 3 := by show 0 + f 0 + f 1 + f 2 + f 3 = _; omega
  rw [← e4]
  have : ∀ d, n + d ≤ 4 → sumN (n + d) f = sumN n f := fun d => by
    induction d with
    | zero => intro _; rfl
    | succ d ih =>
      intro hd
      show sumN (n + d) f + f (n + d) = _
      rw [ih (by omega), h (n + d) (by omega) (by omega), Int.add_zero]
  have := this (4 - n) (by omega)
  rw [show n + (4 - n) = 4 by omega] at this
  exact this.symm
theorem sq_counts {c : Nat → Int} {v : Nat → Int} {m : Nat} (hn : R.length ≤ 4) (hc : ∀ l, m < l → c l = 0) (hm : m < R.length) (hv : ∀ j, v j = sumN R.length fun i => c i * pe R i j) : wdot W v v = gv (gr W R) m c m m := by
  have e : v = fun j => c 0 * pe R 0 j + c 1 * pe R 1 j + c 2 * pe R 2 j + c 3 * pe R 3 j := funext fun j => by
    rw [hv, sum4 hn _ fun i h1 h2 => by rw [hc i (by omega), Int.zero_mul]]
  have S := gr_sym W R
  have a1 := S 1 0
  have a2 := S 2 0
  have a3 := S 3 0
  have a4 := S 2 1
  have a5 := S 3 1
  have a6 := S 3 2
  unfold gv
  rw [if_pos rfl, if_pos rfl, e, wdot_four, wdot_comm W (pe R 0), wdot_comm W (pe R 1), wdot_comm W (pe R 2), wdot_comm W (pe R 3), wdot_four, wdot_four, wdot_four, wdot_four]
  unfold gr at *
  rw [a1, a2, a3, a4, a5, a6]
theorem last_count {n : Nat} (c : Nat → Int) : (∀ i, i < n → c i = 0) ∨ ∃ m, m < n ∧ c m ≠ 0 ∧ ∀ i, m < i → i < n → c i = 0 := by
  induction n with
  | zero => exact .inl fun i hi => by omega
  | succ n ih =>
    by_cases z : c n = 0
    · rcases ih with h | ⟨m, h1, h2, h3⟩
      · exact .inl fun i hi => by
          by_cases q : i = n
          · rw [q]; exact z
          · exact h i (by omega)
      · exact .inr ⟨m, by omega, h2, fun i a b => by
          by_cases q : i = n
          · rw [q]; exact z
          · exact h3 i a (by omega)⟩
    · exact .inr ⟨n, by omega, z, fun i a b => by omega⟩
theorem lat_far (hp : PosD (gr W R) R.length) (hn : R.length ≤ 4) {v : Nat → Int} (hv : Lat R.length (pe R) v) {i : Nat} : Lat i (pe R) v ∨ ∃ m, i ≤ m ∧ m < R.length ∧ dd (gr W R) (m + 1) ≤ dd (gr W R) m * wdot W v v := by
  obtain ⟨c, hc⟩ := lat_comb hv
  rcases last_count (n := R.length) c with h | ⟨m, h1, h2, h3⟩
  · refine .inl (Lat.zero.of fun j => ?_)
    rw [hc j]
    exact (sumN_zero fun i hi => by rw [h i hi, Int.zero_mul]).symm
  · by_cases z : i ≤ m
    · refine .inr ⟨m, z, h1, ?_⟩
      have hv' : ∀ j, v j = sumN R.length fun i => (if i < R.length then c i else 0) * pe R i j := fun j => by
        rw [hc j]
        exact sumN_congr fun i hi => by rw [if_pos hi]
      have cl : ∀ l, m < l → (if l < R.length then c l else 0) = 0 := fun l hl => by
        split
        · exact h3 l hl (by assumption)
        · rfl
      rw [sq_counts (W := W) hn cl h1 hv']
      exact far (gr_sym W R) hp hn h1 cl (by rw [if_pos h1]; exact h2)
    · refine .inl ?_
      have : ∀ j, v j = sumN (m + 1) fun i => c i * pe R i j := fun j => by
        rw [hc j]
        have : ∀ d, m + 1 + d ≤ R.length → (sumN (m + 1 + d) fun i => c i * pe R i j) = sumN (m + 1) fun i => c i * pe R i j := fun d => by
          induction d with
          | zero => intro _; rfl
          | succ d ih =>
            intro hd
            show sumN (m + 1 + d) (fun i => c i * pe R i j) + c (m + 1 + d) * pe R (m + 1 + d) j = _
            rw [ih (by omega), h3 (m + 1 + d) (by omega) (by omega), Int.zero_mul, Int.add_zero]
        have := this (R.length - (m + 1)) (by omega)
        rw [show m + 1 + (R.length - (m + 1)) = R.length by omega] at this
        exact this
      exact (comb_lat (n := i) (g := pe R) c (m + 1) (by omega)).of fun j => (this j).symm
theorem wdot_nought {p : Nat → Int} (h : ∀ j, j < W → p j = 0) : wdot W p p = 0 := sumN_zero fun i hi => by rw [h i hi, Int.zero_mul]
theorem row_apart (hp : PosD (gr W R) R.length) (hn : R.length ≤ 4) {i : Nat} (hi : i < R.length) : ¬ Lat i (pe R) (pe R i) := fun h => by
  obtain ⟨c, hc⟩ := lat_comb h
  have hv : ∀ j, (fun _ => 0 : Nat → Int) j = sumN R.length fun l => (if l < i then -c l else if l = i then 1 else 0) * pe R l j := fun j => by
    have key : ∀ d, i + 1 + d ≤ R.length → (sumN (i + 1 + d) fun l => (if l < i then -c l else if l = i then 1 else 0) * pe R l j) = 0 := fun d => by
      induction d with
      | zero =>
        intro _
        show (sumN i fun l => (if l < i then -c l else if l = i then 1 else 0) * pe R l j) + (if i < i then -c i else if i = i then 1 else 0) * pe R i j = 0
        rw [if_neg (by omega), if_pos rfl, Int.one_mul, hc j]
        have : (sumN i fun l => (if l < i then -c l else if l = i then 1 else 0) * pe R l j) = sumN i fun l => ((-1) * c l) * pe R l j := sumN_congr fun l hl => by rw [if_pos hl]; grind
        rw [this, sumN_mul]
        omega
      | succ d ih =>
        intro hd
        show sumN (i + 1 + d) (fun l => (if l < i then -c l else if l = i then 1 else 0) * pe R l j) + (if i + 1 + d < i then -c (i + 1 + d) else if i + 1 + d = i then 1 else 0) * pe R (i + 1 + d) j = 0
        rw [ih (by omega), if_neg (by omega), if_neg (by omega), Int.zero_mul]
        rfl
    have := key (R.length - (i + 1)) (by omega)
    rw [show i + 1 + (R.length - (i + 1)) = R.length by omega] at this
    exact this.symm
  have cl : ∀ l, i < l → (if l < i then -c l else if l = i then (1 : Int) else 0) = 0 := fun l hl => by rw [if_neg (by omega), if_neg (by omega)]
  have f := far (gr_sym W R) hp hn hi cl (by rw [if_neg (by omega), if_pos rfl]; decide)
  rw [← sq_counts (W := W) hn cl hi hv, wdot_nought fun _ _ => rfl, Int.mul_zero] at f
  have := hp (i + 1) (by omega)
  omega
theorem rows_short (hp : PosD (gr W R) R.length) (hn : R.length ≤ 4) (hr : Red (gr W R) R.length) (hs : SameL R S) {M : Int} (hM : ∀ k, k < S.length → wdot W (pe S k) (pe S k) ≤ M) {i : Nat} (hi : i < R.length) : gr W R i i ≤ 8 * M := by
  have ex : ∃ m, i ≤ m ∧ m < R.length ∧ dd (gr W R) (m + 1) ≤ dd (gr W R) m * M := by
    apply Classical.byContradiction
    intro no
    refine row_apart hp hn hi (Lat.sub (fun k hk => ?_) ((hs _).mp (Lat.mem hi)))
    rcases lat_far (W := W) hp hn (i := i) ((hs _).mpr (Lat.mem (g := pe S) hk)) with h | ⟨m, h1, h2, h3⟩
    · exact h
    · refine absurd ⟨m, h1, h2, Int.le_trans h3 (Int.mul_le_mul_of_nonneg_left (hM k hk) ?_)⟩ no
      have := hp m (by omega)
      omega
  obtain ⟨m, h1, h2, h3⟩ := ex
  have two := row_two (gr_sym W R) hp hn hr hi
  have lf := lov_far hp hr.lov (m - i) i (by omega)
  rw [show i + (m - i) = m by omega] at lf
  have pm := hp m (by omega)
  have pi := hp i (by omega)
  have pi1 := hp (i + 1) (by omega)
  have pm1 := hp (m + 1) (by omega)
  have gi : 0 ≤ gr W R i i := wdot_self_nonneg W _
  generalize gr W R i i = N at *
  generalize dd (gr W R) m = A at *
  generalize dd (gr W R) (m + 1) = B at *
  generalize dd (gr W R) i = C at *
  generalize dd (gr W R) (i + 1) = F at *
  have q0 : (0 : Int) ≤ 2 ^ i := Int.pow_nonneg (by decide)
  have q1 : (0 : Int) ≤ 2 ^ (m - i) := Int.pow_nonneg (by decide)
  have a1 : N * C * A ≤ 2 ^ i * F * A := Int.mul_le_mul_of_nonneg_right two (by omega)
  have a2 : 2 ^ i * (F * A) ≤ 2 ^ i * (2 ^ (m - i) * (B * C)) := Int.mul_le_mul_of_nonneg_left lf q0
  have a3 : 2 ^ i * (2 ^ (m - i) * (B * C)) ≤ 2 ^ i * (2 ^ (m - i) * (A * M * C)) := Int.mul_le_mul_of_nonneg_left (Int.mul_le_mul_of_nonneg_left (Int.mul_le_mul_of_nonneg_right h3 (by omega)) q1) q0
  have e0 : (2 : Int) ^ i * 2 ^ (m - i) = 2 ^ m := by rw [← Int.pow_add]; congr 1; omega
  have e1 : 2 ^ i * (2 ^ (m - i) * (A * M * C)) = (2 ^ m * M) * (C * A) := by rw [← e0]; grind
  have e2 : N * C * A = N * (C * A) := by grind
  have e3 : 2 ^ i * F * A = 2 ^ i * (F * A) := by grind
  have a4 : N * (C * A) ≤ (2 ^ m * M) * (C * A) := by omega
  have a5 := Int.le_of_mul_le_mul_right a4 (Int.mul_pos pi pm)
  have M0 : 0 ≤ M := by
    rcases Int.lt_or_le M 0 with z | z
    · have := Int.mul_neg_of_pos_of_neg pm z
      omega
    · exact z
  have a6 : 2 ^ m * M ≤ 8 * M := Int.mul_le_mul_of_nonneg_right (by
    have : (2 : Int) ^ m ≤ 2 ^ 3 := two_pow_le (by omega)
    exact this) M0
  omega
theorem first_short (hp : PosD (gr W R) R.length) (hn : R.length ≤ 4) (hr : Red (gr W R) R.length) {v : Nat → Int} (hv : Lat R.length (pe R) v) {j : Nat} (hj : v j ≠ 0) : gr W R 0 0 ≤ 2 ^ (R.length - 1) * wdot W v v := by
  rcases lat_far (W := W) hp hn (i := 0) hv with h | ⟨m, h1, h2, h3⟩
  · exfalso
    refine hj ?_
    exact h.van fun k hk => absurd hk (Nat.not_lt_zero _)
  · have ff := first_far hp hr h2
    have pm := hp m (by omega)
    have q0 : (0 : Int) ≤ 2 ^ m := Int.pow_nonneg (by decide)
    have a1 : 2 ^ m * dd (gr W R) (m + 1) ≤ 2 ^ m * (dd (gr W R) m * wdot W v v) := Int.mul_le_mul_of_nonneg_left h3 q0
    have e1 : 2 ^ m * (dd (gr W R) m * wdot W v v) = (2 ^ m * wdot W v v) * dd (gr W R) m := by grind
    have a2 : gr W R 0 0 * dd (gr W R) m ≤ (2 ^ m * wdot W v v) * dd (gr W R) m := by omega
    have a3 := Int.le_of_mul_le_mul_right a2 pm
    have v0 := wdot_self_nonneg W v
    have a4 : 2 ^ m * wdot W v v ≤ 2 ^ (R.length - 1) * wdot W v v := Int.mul_le_mul_of_nonneg_right (two_pow_le (by omega)) v0
    omega
end
end SF
namespace SF
def minorN (k : Nat) (a : Nat → Nat → Int) (i j : Nat) : Int := a (i + 1) (if j < k then j else j + 1)
def sgn : Nat → Int
  | 0 => 1
  | k + 1 => -sgn k
def detN : Nat → (Nat → Nat → Int) → Int
  | 0, _ => 1
  | n + 1, a => sumN (n + 1) fun k => sgn k * a 0 k * detN n (minorN k a)
theorem detN_dd (g : Nat → Nat → Int) {n : Nat} (hn : n ≤ 4) : detN n g = dd g n := by
  have pn : n = 0 ∨ n = 1 ∨ n = 2 ∨ n = 3 ∨ n = 4 := by omega
  rcases pn with rfl | rfl | rfl | rfl | rfl
  · rfl
  · simp [detN, sumN, sgn, dd, mm]
  · simp [detN, sumN, sgn, dd, mm, minorN]
    grind
  · simp [detN, sumN, sgn, dd, mm, minorN]
    grind
  · simp [detN, sumN, sgn, dd, mm, minorN]
    grind
theorem dd_any {g : Nat → Nat → Int} (h : Sym g) {a o n : Nat} (m : Int) (hn : n ≤ 4) (ha : a < n) (ho : o < n) (hne : o ≠ a) : dd (gl g a o m) n = dd g n := by
  by_cases z : o < a
  · exact dd_lean h z (by omega) hn
  · have c1 := h 1 0
    have c2 := h 2 0
    have c3 := h 3 0
    have c4 := h 2 1
    have c5 := h 3 1
    have c6 := h 3 2
    have pr : (a = 0 ∧ o = 1) ∨ (a = 0 ∧ o = 2) ∨ (a = 0 ∧ o = 3) ∨ (a = 1 ∧ o = 2) ∨ (a = 1 ∧ o = 3) ∨ (a = 2 ∧ o = 3) := by omega
    have pn : n = 2 ∨ n = 3 ∨ n = 4 := by omega
    rcases pn with rfl | rfl | rfl <;> rcases pr with ⟨rfl, rfl⟩ | ⟨rfl, rfl⟩ | ⟨rfl, rfl⟩ | ⟨rfl, rfl⟩ | ⟨rfl, rfl⟩ | ⟨rfl, rfl⟩ <;> first | omega | (simp only [dd, mm, gl] <;> simp <;> grind)
def sx (a b i : Nat) : Nat := if i = a then b else if i = b then a else i
theorem dd_sx {g : Nat → Nat → Int} (h : Sym g) {a b n : Nat} (hn : n ≤ 4) (hab : a ≤ b) (hb : b < n) : dd (fun i j => g (sx a b i) (sx a b j)) n = dd g n := by
  have c1 := h 1 0
  have c2 := h 2 0
  have c3 := h 3 0
  have c4 := h 2 1
  have c5 := h 3 1
  have c6 := h 3 2
  by_cases z : a = b
  · have e : ∀ i, sx a b i = i := fun i => by unfold sx; split <;> (try split) <;> omega
    have : (fun i j => g (sx a b i) (sx a b j)) = g := by funext i j; rw [e, e]
    rw [this]
  have pr : (a = 0 ∧ b = 1) ∨ (a = 0 ∧ b = 2) ∨ (a = 0 ∧ b = 3) ∨ (a = 1 ∧ b = 2) ∨ (a = 1 ∧ b = 3) ∨ (a = 2 ∧ b = 3) := by omega
  have pn : n = 2 ∨ n = 3 ∨ n = 4 := by omega
  rcases pn with rfl | rfl | rfl <;> rcases pr with ⟨rfl, rfl⟩ | ⟨rfl, rfl⟩ | ⟨rfl, rfl⟩ | ⟨rfl, rfl⟩ | ⟨rfl, rfl⟩ | ⟨rfl, rfl⟩ <;> first | omega | (simp only [dd, mm, sx] <;> simp <;> grind)
def gn (g : Nat → Nat → Int) (a i j : Nat) : Int := (if i = a then -1 else 1) * (if j = a then -1 else 1) * g i j
theorem dd_neg {g : Nat → Nat → Int} {a n : Nat} (hn : n ≤ 4) (ha : a < n) : dd (gn g a) n = dd g n := by
  have pa : a = 0 ∨ a = 1 ∨ a = 2 ∨ a = 3 := by omega
  have pn : n = 1 ∨ n = 2 ∨ n = 3 ∨ n = 4 := by omega
  rcases pn with rfl | rfl | rfl | rfl <;> rcases pa with rfl | rfl | rfl | rfl <;> first | omega | (simp only [dd, mm, gn] <;> simp <;> try grind)
def ge (W : Nat) (R : List Row) (i j : Nat) : Int := wdot W (ent R i) (ent R j)
theorem ge_sym (W : Nat) (R : List Row) : Sym (ge W R) := fun i j => wdot_comm W _ _
section
variable {W n : Nat} {R : List Row} {done c a k o : Nat} {m : Int}
theorem ge_less (s : Shp W n R) (hk : k < R.length) (ho : o < R.length) : ge W (R.set k (lessR (row R k) m (row R o))) = gl (ge W R) k o m := by
  have e : ∀ i, ent (R.set k (lessR (row R k) m (row R o))) i = if i = k then (fun j => ent R k j - m * ent R o j) else ent R i := fun i => by
    funext j
    unfold ent
    by_cases z : i = k
    · subst z
      rw [row_set_eq hk, if_pos rfl]
      exact vf_less (by rw [s.pt _ hk, s.pt _ ho]) j
    · rw [row_set_ne (Ne.symm z), if_neg z]
  funext i j
  unfold gl
  show wdot W (ent _ i) (ent _ j) = _
  rw [e i, e j]
  by_cases hi : i = k
  · by_cases hj : j = k
    · rw [if_pos hi, if_pos hj, if_pos hi, if_pos hj, wdot_lin, wdot_lin2, wdot_lin2]
      unfold ge
      grind
    · rw [if_pos hi, if_neg hj, if_pos hi, if_neg hj, wdot_lin2]
      rfl
  · by_cases hj : j = k
    · rw [if_neg hi, if_pos hj, if_neg hi, if_pos hj, wdot_lin]
      rfl
    · rw [if_neg hi, if_neg hj, if_neg hi, if_neg hj]
      rfl
theorem shp_set (s : Shp W n R) {r : Row} (h1 : r.1.length = W) (h2 : r.2.length = n) : Shp W n (R.set k r) := by
  have key : ∀ i, i < R.length → (row (R.set k r) i).1.length = W ∧ (row (R.set k r) i).2.length = n := fun i hi => by
    by_cases z : k = i
    · subst z; rw [row_set_eq hi]; exact ⟨h1, h2⟩
    · rw [row_set_ne z]; exact ⟨s.pt _ hi, s.ct _ hi⟩
  exact ⟨fun i hi => (key i (by simpa using hi)).1, fun i hi => (key i (by simpa using hi)).2⟩
theorem dd_elim (s : Shp W n R) (hn : R.length ≤ 4) : ∀ i, done + 1 + i ≤ R.length → Shp W n (elimN R (row R done) done c i) ∧ row (elimN R (row R done) done c i) done = row R done ∧ dd (ge W (elimN R (row R done) done c i)) R.length = dd (ge W R) R.length
  | 0, _ => ⟨s, rfl, rfl⟩
  | i + 1, h => by
    obtain ⟨s1, r1, d1⟩ := dd_elim s hn i (by omega)
    have len := elimN_len R (row R done) done c i
    have e : elimN R (row R done) done c (i + 1) = (elimN R (row R done) done c i).set (done + 1 + i) (lessR (row (elimN R (row R done) done c i) (done + 1 + i)) ((ent (elimN R (row R done) done c i) (done + 1 + i) c).fdiv (vf (row R done).1 c)) (row (elimN R (row R done) done c i) done)) := by rw [r1]; rfl
    rw [e]
    generalize elimN R (row R done) done c i = R1 at *
    refine ⟨?_, ?_, ?_⟩
    · have := shp_less (m := (ent R1 (done + 1 + i) c).fdiv (vf (row R done).1 c)) (s1.pt (done + 1 + i) (by omega)) (s1.ct (done + 1 + i) (by omega)) (s1.pt done (by omega)) (s1.ct done (by omega))
      exact shp_set s1 this.1 this.2
    · rw [row_set_ne (by omega)]; exact r1
    · rw [ge_less s1 (by omega) (by omega), dd_any (ge_sym W R1) _ hn (by omega) (by omega) (by omega)]
      exact d1
theorem dd_swapR (hn : R.length ≤ 4) (h1 : done ≤ a) (h2 : a < R.length) : dd (ge W (swapR R done a)) R.length = dd (ge W R) R.length := by
  rw [← dd_sx (ge_sym W R) hn h1 h2]
  congr 1
  funext i j
  have e : ∀ i, ent (swapR R done a) i = ent R (sx done a i) := fun i => by
    funext j
    unfold ent sx
    rw [swapR_row h1 h2]
    split
    · rfl
    · split <;> rfl
  show wdot W _ _ = wdot W _ _
  rw [e, e]
theorem dd_pass (s : Shp W n R) (hn : R.length ≤ 4) (h1 : done ≤ a) (h2 : a < R.length) : dd (ge W (passR R done c a)) R.length = dd (ge W R) R.length := by
  have er : row (swapR R done a) done = row R a := by rw [swapR_row h1 h2, if_pos rfl]
  have ss : Shp W n (swapR R done a) := by
    have key : ∀ k, k < R.length → (row (swapR R done a) k).1.length = W ∧ (row (swapR R done a) k).2.length = n := fun k hk => by
      rw [swapR_row h1 h2]
      split
      · exact ⟨s.pt _ h2, s.ct _ h2⟩
      · split
        · exact ⟨s.pt _ (by omega), s.ct _ (by omega)⟩
        · exact ⟨s.pt _ hk, s.ct _ hk⟩
    exact ⟨fun k hk => (key k (by rwa [swapR_len] at hk)).1, fun k hk => (key k (by rwa [swapR_len] at hk)).2⟩
  have len := swapR_len R done a
  have := (dd_elim (c := c) ss (done := done) (by omega) (R.length - (done + 1)) (by omega)).2.2
  rw [er, len] at this
  unfold passR
  rw [this]
  exact dd_swapR hn h1 h2
theorem dd_cleared {S : List Pt} {b : Nat} (h : StOk W S b c R done) (hn : R.length ≤ 4) : dd (ge W (clearedR R done c)) R.length = dd (ge W R) R.length := by
  have len := h.len
  have q := clear_ind (W := W) (n := S.length) (N := S.length) (done := done) (c := c) (B := 2 ^ xs b (c + 1))
    (P := fun R' _ => dd (ge W R') R.length = dd (ge W R) R.length)
    (fun R' a hc hp => by
      obtain ⟨l1, l2, l3⟩ := hc.at_
      have := hc.len
      have := dd_pass (c := c) hc.shp (by omega) l1 l2
      rw [show R'.length = R.length by omega] at this
      rw [this]
      exact hp)
    (meas R c (leastAt R done c) + 1) R (leastAt R done c) (.inl h.c1) rfl (Nat.lt_succ_self _)
  exact q.2
theorem dd_up (s : Shp W n R) (hn : R.length ≤ 4) (hd : done < R.length) : ∀ i, i ≤ done → Shp W n (upN R done c i) ∧ dd (ge W (upN R done c i)) R.length = dd (ge W R) R.length
  | 0, _ => ⟨s, rfl⟩
  | i + 1, h => by
    obtain ⟨s1, d1⟩ := dd_up s hn hd i (by omega)
    have len := upN_len R done c i
    rw [upN]
    generalize upN R done c i = R1 at *
    refine ⟨?_, ?_⟩
    · have := shp_less (m := (ent R1 i c).fdiv (ent R1 done c)) (s1.pt i (by omega)) (s1.ct i (by omega)) (s1.pt done (by omega)) (s1.ct done (by omega))
      exact shp_set s1 this.1 this.2
    · rw [ge_less s1 (by omega) (by omega), dd_any (ge_sym W R1) _ hn (by omega) (by omega) (by omega)]
      exact d1
theorem dd_pos (hn : R.length ≤ 4) (hd : done < R.length) : dd (ge W (posR R done c)) R.length = dd (ge W R) R.length := by
  unfold posR
  by_cases z : ent R done c < 0
  · rw [if_pos z, ← dd_neg (g := ge W R) hn hd]
    congr 1
    funext i j
    have e : ∀ i, ent (R.set done (negR (row R done))) i = fun j => (if i = done then -1 else 1) * ent R i j := fun i => by
      funext j
      unfold ent
      by_cases y : i = done
      · subst y
        rw [row_set_eq hd, if_pos rfl]
        show vf (timesP (-1) (row R i).1) j = _
        rw [vf_times]
      · rw [row_set_ne (Ne.symm y), if_neg y, Int.one_mul]
    show wdot W _ _ = gn (ge W R) done i j
    rw [e, e]
    unfold gn ge wdot
    have : ∀ x y : Int, (sumN W fun l => x * ent R i l * (y * ent R j l)) = x * y * sumN W fun l => ent R i l * ent R j l := fun x y => by
      rw [← sumN_mul]
      exact sumN_congr fun l _ => by grind
    exact this _ _
  · rw [if_neg z]
theorem dd_stairN {S : List Pt} {b : Nat} (h : StepsOk W b S) (hn : S.length ≤ 4) : ∀ c, dd (ge W (stairN S c).1) S.length = dd (gr W S) S.length
  | 0 => by
    have e : ∀ i, i < S.length → ent (initR S) i = pe S i := fun i hi => by
      funext j
      unfold ent pe
      rw [initR_row hi]
    have z : ∀ i, S.length ≤ i → ent (initR S) i = pe S i := fun i hi => by
      funext j
      unfold ent pe row
      rw [List.getD_eq_getElem?_getD, List.getElem?_eq_none (by rw [initR_len]; exact hi), List.getD_eq_getElem?_getD, List.getElem?_eq_none hi]
      rfl
    have all : ge W (initR S) = gr W S := by
      funext i j
      unfold ge gr
      have ei : ∀ i, ent (initR S) i = pe S i := fun i => if q : i < S.length then e i q else z i (by omega)
      rw [ei, ei]
    show dd (ge W (initR S)) S.length = _
    rw [all]
  | c + 1 => by
    have ih := dd_stairN h hn c
    have ok := stOk_all h c
    have len := ok.len
    have cl := ok.cleared
    have d1 := dd_cleared ok (by omega)
    rw [len, ih] at d1
    have nx := (stOk_all h (c + 1)).len
    rw [stairN] at nx ⊢
    unfold colStep at nx ⊢
    have lenC := cl.len
    split
    · rename_i hc
      have hP := cl.pos hc.1 hc.2
      have lenP := hP.cl.len
      have dp := dd_pos (W := W) (c := c) (R := clearedR (stairN S c).1 (stairN S c).2 c) (done := (stairN S c).2) (by omega) hc.1
      have du := (dd_up (c := c) hP.cl.shp (by omega) hP.lt (stairN S c).2 (Nat.le_refl _)).2
      rw [lenP] at du
      rw [lenC] at dp
      show dd (ge W (upN (posR (clearedR (stairN S c).1 (stairN S c).2 c) (stairN S c).2 c) (stairN S c).2 c (stairN S c).2)) S.length = _
      rw [du, dp, d1]
    · exact d1
theorem dd_steps {S : List Pt} {b : Nat} (h : StepsOk W b S) (hn : S.length ≤ 4) (hl : S.length = (stairP W S).length) : dd (gr W S) S.length = dd (gr W (stairP W S)) (stairP W S).length := by
  rw [← dd_stairN h hn W, ← hl]
  have ok := stOk_all h W
  have e : ∀ i, i < S.length → ent (stairN S W).1 i = pe (stairP W S) i := fun i hi => by
    funext j
    exact (stairP_pe h (by omega) j).symm
  have z : ∀ i, S.length ≤ i → ent (stairN S W).1 i = pe (stairP W S) i := fun i hi => by
    funext j
    unfold ent pe row
    rw [List.getD_eq_getElem?_getD, List.getElem?_eq_none (by rw [ok.len]; exact hi), List.getD_eq_getElem?_getD, List.getElem?_eq_none (by omega)]
    rfl
  have ei : ∀ i, ent (stairN S W).1 i = pe (stairP W S) i := fun i => if q : i < S.length then e i q else z i (by omega)
  have all : ge W (stairN S W).1 = gr W (stairP W S) := by
    funext i j
    unfold ge gr
    rw [ei, ei]
  rw [all]
end
theorem dd_full {W : Nat} {L : List Pt} {E : Nat → Nat} (h : Hnf W L E) (hn : L.length = W) (hW : W ≤ 4) : (∀ i, i < W → E i = i) ∧ dd (gr W L) W = prodI (fun i => pe L i i) W * prodI (fun i => pe L i i) W := by
  have Ei : ∀ i, i < W → E i = i := by
    have lo : ∀ i, i < L.length → i ≤ E i := fun i => by
      induction i with
      | zero => intro _; omega
      | succ i ih =>
        intro hi
        have a := ih (by omega)
        have b := h.mono i (i + 1) (by omega) hi
        omega
    have hi : ∀ r i, i + r + 1 = L.length → E i + r + 1 ≤ W := fun r => by
      induction r with
      | zero => intro i hi; have := h.lt i (by omega); omega
      | succ r ih =>
        intro i hi
        have a := ih (i + 1) (by omega)
        have b := h.mono i (i + 1) (by omega) (by omega)
        omega
    intro i hiW
    have a := lo i (by omega)
    have b := hi (W - i - 1) i (by omega)
    omega
  refine ⟨Ei, ?_⟩
  have z : ∀ i j, i < W → j < i → pe L i j = 0 := fun i j hi hj => h.zero i j (by omega) (by rw [Ei i hi]; exact hj)
  have pw : W = 0 ∨ W = 1 ∨ W = 2 ∨ W = 3 ∨ W = 4 := by omega
  rcases pw with rfl | rfl | rfl | rfl | rfl
  · rfl
  · simp only [dd, mm, gr, wdot, sumN, prodI]
    grind
  · have z1 := z 1 0 (by omega) (by omega)
    simp only [dd, mm, gr, wdot, sumN, prodI, z1]
    grind
  · have z1 := z 1 0 (by omega) (by omega)
    have z2 := z 2 0 (by omega) (by omega)
    have z3 := z 2 1 (by omega) (by omega)
    simp only [dd, mm, gr, wdot, sumN, prodI, z1, z2, z3]
    grind
  · have z1 := z 1 0 (by omega) (by omega)
    have z2 := z 2 0 (by omega) (by omega)
    have z3 := z 2 1 (by omega) (by omega)
    have z4 := z 3 0 (by omega) (by omega)
    have z5 := z 3 1 (by omega) (by omega)
    have z6 := z 3 2 (by omega) (by omega)
    simp only [dd, mm, gr, wdot, sumN, prodI, z1, z2, z3, z4, z5, z6]
    grind
end SF
namespace SF
open PySem PySem.Spec PyProof.Rows L2
section
variable {K : PySem.W.Frag} {σ : L2.St} {H : Hp} {te : TE} {D : Ends} {ds : List PyData}
theorem s_appV {l : Addr} {io : Nat} {xs : List V} {v : V} (hl : H l = some (.lst xs)) (ho : σ[io]? = some (some (.ref l))) (h : EvV te σ H v) (hz : xs.length < 100000) (k : ∀ H1, Ex H H1 → D.nx σ (upd H1 l (.lst (xs ++ [v])))) :
    tDrop (tBM K "list" rAppend (tVar io) (tCons te tNil)) D σ H := by
  refine ⟨_, ho, Or.inl ⟨rfl, xs, SqL.of hl⟩, ?_⟩
  refine h H ex_refl _ fun H1 e1 => ?_
  exact ⟨l, xs, v, rfl, rfl, e1 l _ hl, Evl.sz_lt hz, k H1 e1⟩
theorem ddAll_of {vs : List V} {ds : List PyData} (hl : vs.length = ds.length) (h : ∀ (i : Nat) (v : V) (d : PyData), vs[i]? = some v → ds[i]? = some d → Dd K H v d) : DdAll K H vs ds := by
  induction vs generalizing ds with
  | nil =>
    cases ds with
    | nil => exact .nil
    | cons _ _ => simp at hl
  | cons v vs ih =>
    cases ds with
    | nil => simp at hl
    | cons d ds => exact .cons (h 0 v d rfl rfl) (ih (by simpa using hl) fun i v' d' h1 h2 => h (i + 1) v' d' (by simpa using h1) (by simpa using h2))
theorem s_asgTwo {j1 j2 : Nat} {d1 d2 : PyData} (h : EvD K te σ H (.tuple [d1, d2])) (k : ∀ x y H1, Ex H H1 → Dd K H1 x d1 → Dd K H1 y d2 → D.nx ((σ.set j1 (some x)).set j2 (some y)) H1) : tAsg te (gTwo K j1 j2) D σ H := by
  refine h H ex_refl _ fun v H1 e1 hv => ?_
  obtain ⟨T, xs, rfl, hT, ha⟩ := dp_tup hv
  obtain ⟨x, y, rfl, hx, hy⟩ := dd2 ha
  exact ⟨T, [x, y], rfl, hT.sq, rfl, x, [y], rfl, y, [], rfl, rfl, k x y H1 e1 hx hy⟩
end
def lineN (g : Nat → Nat → Int) (i j : Nat) : Pt := (List.range j).map fun k => mm g k i k
def roomsD (g : Nat → Nat → Int) (i : Nat) : Pt := (List.range i).map fun k => dd g (k + 1)
def tabD (g : Nat → Nat → Int) (i : Nat) : List PyData := (List.range i).map fun t => plD (lineN g t (t + 1))
theorem lineN_len (g : Nat → Nat → Int) (i j : Nat) : (lineN g i j).length = j := by simp [lineN]
theorem roomsD_len (g : Nat → Nat → Int) (i : Nat) : (roomsD g i).length = i := by simp [roomsD]
theorem lineN_vf {g : Nat → Nat → Int} {i j k : Nat} (h : k < j) : vf (lineN g i j) k = mm g k i k := by unfold lineN vf; simp [List.getD_eq_getElem?_getD, h]
theorem roomsD_vf {g : Nat → Nat → Int} {i k : Nat} (h : k < i) : vf (roomsD g i) k = dd g (k + 1) := by unfold roomsD vf; simp [List.getD_eq_getElem?_getD, h]
theorem lineN_next (g : Nat → Nat → Int) (i j : Nat) : lineN g i (j + 1) = lineN g i j ++ [mm g j i j] := by unfold lineN; rw [List.range_succ, List.map_append]; rfl
theorem roomsD_next (g : Nat → Nat → Int) (i : Nat) : roomsD g (i + 1) = roomsD g i ++ [dd g (i + 1)] := by unfold roomsD; rw [List.range_succ, List.map_append]; rfl
theorem tabD_get {g : Nat → Nat → Int} {i t : Nat} (h : t < i) : (tabD g i)[t]? = some (plD (lineN g t (t + 1))) := by unfold tabD; simp [h]
structure PT (H0 H : Hp) (g : Nat → Nat → Int) (i : Nat) (ar ta : Addr) : Prop where
  ex : Ex H0 H
  na : H0 ar = none
  nt : H0 ta = none
  ne : ar ≠ ta
  ar_ : H ar = some (.lst ((roomsD g i).map V.int))
  ta_ : ∃ ps : List Addr, ps.length = i ∧ H ta = some (.lst (ps.map V.ref)) ∧ ∀ (t : Nat) (p : Addr), ps[t]? = some p → H p = some (.lst ((lineN g t (t + 1)).map V.int)) ∧ p ≠ ar ∧ p ≠ ta
section
variable {K : PySem.W.Frag} {H0 H H' : Hp} {g : Nat → Nat → Int} {i : Nat} {ar ta : Addr}
theorem PT.up (h : PT H0 H g i ar ta) (e : Ex H H') : PT H0 H' g i ar ta := by
  obtain ⟨ps, h1, h2, h3⟩ := h.ta_
  exact ⟨ex_tr h.ex e, h.na, h.nt, h.ne, e _ _ h.ar_, ps, h1, e _ _ h2, fun t p hp => ⟨e _ _ (h3 t p hp).1, (h3 t p hp).2⟩⟩
theorem PT.rooms (h : PT H0 H g i ar ta) : Dd K H (.ref ar) (plD (roomsD g i)) := .lst (SqL.of h.ar_) (DdAll.ints _)
theorem PT.tab (h : PT H0 H g i ar ta) : Dd K H (.ref ta) (.list (tabD g i)) := by
  obtain ⟨ps, h1, h2, h3⟩ := h.ta_
  refine .lst (SqL.of h2) (ddAll_of (by simp [tabD, h1]) fun t v d hv hd => ?_)
  obtain ⟨p, hp, rfl⟩ : ∃ p, ps[t]? = some p ∧ v = .ref p := by
    rw [List.getElem?_map] at hv
    cases e : ps[t]? with
    | none => rw [e] at hv; cases hv
    | some p => rw [e] at hv; exact ⟨p, rfl, (Option.some.inj hv).symm⟩
  have ht : t < i := by rw [← h1]; exact (List.getElem?_eq_some_iff.mp hp).1
  rw [tabD_get ht] at hd
  cases hd
  exact .lst (SqL.of (h3 t p hp).1) (DdAll.ints _)
theorem PT.next {H1 H2 : Hp} {ll : Addr} (h : PT H0 H g i ar ta) (hl : H ll = none) (hl2 : H1 ll = some (.lst ((lineN g i (i + 1)).map V.int))) (e1 : Ex H H1) (e2 : Ex1 ar H1 H2) (ha : H2 ar = some (.lst ((roomsD g (i + 1)).map V.int))) {H3 : Hp} (e3 : Ex H2 H3) :
    ∃ ps : List Addr, H3 ta = some (.lst (ps.map V.ref)) ∧ ps.length = i ∧ PT H0 (upd H3 ta (.lst (ps.map V.ref ++ [.ref ll]))) g (i + 1) ar ta := by
  obtain ⟨ps, h1, h2, h3⟩ := h.ta_
  have neL : ll ≠ ar := by rintro rfl; rw [h.ar_] at hl; cases hl
  have neT : ll ≠ ta := by rintro rfl; rw [h2] at hl; cases hl
  have t2 : H2 ta = some (.lst (ps.map V.ref)) := e2 ta _ (e1 ta _ h2) h.ne.symm
  have t3 := e3 _ _ t2
  refine ⟨ps, t3, h1, ⟨?_, h.na, h.nt, h.ne, ?_, ps ++ [ll], by simp [h1], ?_, fun t p hp => ?_⟩⟩
  · intro b o hb
    have n1 : b ≠ ta := by rintro rfl; rw [h.nt] at hb; cases hb
    have n2 : b ≠ ar := by rintro rfl; rw [h.na] at hb; cases hb
    rw [upd_ne n1]
    exact e3 b o (e2 b o (e1 b o (h.ex b o hb)) n2)
  · rw [upd_ne h.ne]; exact e3 _ _ ha
  · rw [upd_same]; simp
  · by_cases z : t < ps.length
    · rw [List.getElem?_append_left z] at hp
      obtain ⟨a1, a2, a3⟩ := h3 t p hp
      refine ⟨?_, a2, a3⟩
      rw [upd_ne a3]
      exact e3 _ _ (e2 _ _ (e1 _ _ a1) a2)
    · rw [List.getElem?_append_right (by omega)] at hp
      have z0 : t - ps.length = 0 := by
        have := (List.getElem?_eq_some_iff.mp hp).1
        simp at this
        omega
      rw [z0] at hp
      cases hp
      refine ⟨?_, neL, neT⟩
      rw [upd_ne neT, show t = i by omega]
      exact e3 _ _ (e2 _ _ hl2 neL)
end
def RParts (ds : List PyData) (d : PyData) : Prop := ∃ (W X : Nat) (R : List Pt), ds = [.list (R.map ptD)] ∧ d = .tuple [plD (roomsD (gr W R) R.length), .list (tabD (gr W R) R.length)] ∧ PartsOk W X R
def RLeaned (ds es : List PyData) : Prop := ∃ (W X : Nat) (R : List Pt) (a o : Nat), ds = [.list (R.map ptD), .int (a : Int), .int (o : Int)] ∧ es = (leanedP W R a o).map ptD ∧ PartsOk W X R ∧ o < a ∧ a < R.length
def RFalls (ds : List PyData) (d : PyData) : Prop := ∃ (W X : Nat) (R : List Pt) (a : Nat), ds = [.list (R.map ptD), .int (a : Int)] ∧ d = .bool (fallsB (gr W R) a) ∧ PartsOk W X R ∧ 1 ≤ a ∧ a < R.length
structure ShortOk (W : Nat) (S R : List Pt) : Prop where
  n : R.length = (stairP W S).length
  parts : PartsOk W 3160011 R
  same : SameL R (stairP W S)
  dn : dd (gr W R) R.length = dd (gr W (stairP W S)) R.length
  red : Red (gr W R) R.length
structure GoodS (W b : Nat) (S : List Pt) : Prop where
  g : Good W b S
  w : W ≤ 4
  y : ys b W ≤ 78998
def spShort (C : Addr) (K : PySem.W.Frag) : Sp := fun vs H Q _ => ∃ a W b S, vs = [.ref a] ∧ FieldAt C K H a W S ∧ GoodS W b S ∧ ∀ p xs R H2, H p = none → Ex H H2 → H2 p = some (.lst xs) → DdAll K H2 xs (R.map ptD) → ShortOk W S R → Q (.ref p) H2
def roomP (W : Nat) (S : List Pt) : Int := dd (gr W (stairP W S)) (stairP W S).length
def spRoom (C : Addr) (K : PySem.W.Frag) : Sp := fun vs H Q _ => ∃ a W b S, vs = [.ref a] ∧ FieldAt C K H a W S ∧ GoodS W b S ∧ ∀ H2, Ex H H2 → Q (.int (roomP W S)) H2
theorem near_bd {W X : Nat} {R : List Pt} (h : PartsOk W X R) {a o : Nat} (ho : o < R.length) : (near (gr W R) a o).natAbs < 2 ^ (8 * X + 17) := by
  have hd := h.pos (o + 1) (by omega)
  have hm := h.mm o a o
  have q := fd_abs (2 * mm (gr W R) o a o + dd (gr W R) (o + 1)) (show 2 * dd (gr W R) (o + 1) ≠ 0 by omega)
  have h2 := h.dd (o + 1)
  have h3 : (2 * mm (gr W R) o a o + dd (gr W R) (o + 1)).natAbs / (2 * dd (gr W R) (o + 1)).natAbs ≤ (2 * mm (gr W R) o a o + dd (gr W R) (o + 1)).natAbs := Nat.div_le_self _ _
  have e : 2 ^ (8 * X + 17) = 8 * 2 ^ (8 * X + 14) := by rw [show 8 * X + 17 = 3 + (8 * X + 14) by omega, Nat.pow_add]
  unfold near
  omega
theorem short_start {W b : Nat} {S : List Pt} (h : GoodS W b S) : LS W (stairP W S).length 632000 (stairP W S) (stairP W S) 1 := by
  obtain ⟨E, hE⟩ := stairP_hnf h.g.ok
  have y := h.y
  have := LS.start (X := 78999) hE h.w (fun p hp => by
    obtain ⟨i, hi, rfl⟩ := List.mem_iff_getElem.mp hp
    have eg : (stairP W S).getD i [] = (stairP W S)[i] := by rw [List.getD_eq_getElem?_getD, List.getElem?_eq_getElem hi]; rfl
    have := stairP_bd h.g.ok hi
    rw [eg] at this
    exact this.up (by omega))
  exact this
section
variable {K : PySem.W.Frag} {σ : L2.St} {H : Hp} {C : Addr} {E : XK} {ta : TE} {W b : Nat} {S : List Pt}
theorem er_short (h : EvFd C K ta σ H W S) (hg : GoodS W b S) : EvR (tCall (spShort C K) [] E (tCons ta tNil)) σ H (fun v H2 => ∃ p xs R, v = .ref p ∧ Ex H H2 ∧ H p = none ∧ H2 p = some (.lst xs) ∧ DdAll K H2 xs (R.map ptD) ∧ ShortOk W S R) := fun Q q =>
  h H ex_refl _ fun a H2 e2 hF => ⟨a, W, b, S, by simp, hF, hg, fun p xs R H3 hp e3 h1 h2 ok => q _ H3 ⟨p, xs, R, rfl, ex_tr e2 e3, ex_back e2 hp, h1, h2, ok⟩⟩
theorem ev_room (h : EvFd C K ta σ H W S) (hg : GoodS W b S) : EvD K (tCall (spRoom C K) [] E (tCons ta tNil)) σ H (.int (roomP W S)) := fun H1 e Q q =>
  h H1 e _ fun a H2 e2 hF => ⟨a, W, b, S, by simp, hF, hg, fun H3 e3 => q _ H3 (ex_tr e2 e3) (.int _)⟩
end
theorem short_bd {W b : Nat} {S R : List Pt} (h : StepsOk W b S) (hW : W ≤ 4) (ok : ShortOk W S R) : StepsOk W (b + 4) R := stepsOk_mem fun p hp => by
  have lat := stairP_lat h
  have same : SameL R S := ok.same.trans lat
  have n4 := ok.parts.n
  obtain ⟨i, hi, rfl⟩ := List.mem_iff_getElem.mp hp
  have eg : R.getD i [] = R[i] := by rw [List.getD_eq_getElem?_getD, List.getElem?_eq_getElem hi]; rfl
  have rw_ := (ok.parts.row _ (List.getElem_mem hi)).1
  have sz := rows_short (W := W) (M := 2 ^ (2 * b + 2)) ok.parts.pos n4 ok.red same (fun k hk => by
    have := gr_bd (R := S) hW (X := b) (fun p hp => (h.mem hp).2) k k
    have g0 : 0 ≤ gr W S k k := wdot_self_nonneg W _
    have e : ((gr W S k k).natAbs : Int) = gr W S k k := Int.natAbs_of_nonneg g0
    show gr W S k k ≤ _
    rw [← e]
    exact_mod_cast this) hi
  have e8 : (8 : Int) * 2 ^ (2 * b + 2) ≤ 2 ^ (2 * (b + 3)) := by
    have : (2 : Int) ^ (3 + (2 * b + 2)) ≤ 2 ^ (2 * (b + 3)) := two_pow_le (by omega)
    rw [Int.pow_add] at this
    exact this
  refine ⟨rw_, bd_of (b := b + 3) fun j => ?_⟩
  by_cases hj : j < W
  · have := sq_le_wdot (W := W) (p := pe R i) hj
    have := bd_of_sq (Int.le_trans this (Int.le_trans sz e8))
    unfold pe at this
    rwa [eg] at this
  · rw [vf_beyond (by omega)]
    exact Nat.zero_le _
theorem short_same {W b : Nat} {S R : List Pt} (h : StepsOk W b S) (ok : ShortOk W S R) : SameL R S := ok.same.trans (stairP_lat h)
theorem short_stairs {W b : Nat} {S R : List Pt} (h : StepsOk W b S) (hW : W ≤ 4) (ok : ShortOk W S R) : stairP W R = stairP W S := stairP_uniq (short_bd h hW ok) h (short_same h ok)
theorem short_good {W b : Nat} {S R : List Pt} (h : StepsOk W b S) (hW : W ≤ 4) (hb : b ≤ 50) (ok : ShortOk W S R) : Good W 54 R := by
  have o := short_bd h hW ok
  have n := ok.parts.n
  refine ⟨⟨o.len, fun k hk => (o.bd k hk).up (by omega)⟩, by omega, by omega, Nat.le_trans (xs_mono 54 hW) (by decide), Nat.le_trans (ys_mono 54 hW) (by decide)⟩
theorem short_fok {W b : Nat} {S R : List Pt} (h : StepsOk W b S) (h1 : 1 ≤ W) (hW : W ≤ 4) (ok : ShortOk W S R) : FOk W R := ⟨h1, hW, by have := ok.parts.n; omega, (short_bd h hW ok).len⟩
theorem goodS {W b : Nat} {S : List Pt} (h : StepsOk W b S) (hb : b ≤ 50) (hW : W ≤ 4) (hn : S.length ≤ 100) : GoodS W 50 S := by
  have o : StepsOk W 50 S := ⟨h.len, fun k hk => (h.bd k hk).up hb⟩
  exact ⟨good4 o hW hn, hW, ys4 hW⟩
structure AnyOk (W : Nat) (S : List Pt) : Prop where
  w1 : 1 ≤ W
  w4 : W ≤ 4
  n : S.length ≤ 6
  ok : StepsOk W 50 S
def spAny (K : PySem.W.Frag) : Sp := fun vs H Q _ => ∃ a ns, vs = [.ref a] ∧ Scr K H (.ref a) ns ∧ ns.length ≤ 1000 ∧ ∀ (v : V) (W : Nat) (S : List Pt) (H' : Hp), Ex H H' → Dd K H' v (.tuple [.int (W : Int), .list (S.map ptD)]) → AnyOk W S → Q v H'
def EvFdX (C : Addr) (K : PySem.W.Frag) (te : TE) (σ : L2.St) (H : Hp) (W : Nat) (Pr : List Pt → Prop) : Prop := ∀ H1, Ex H H1 → ∀ Q : VK, (∀ a R H2, Pr R → Ex H1 H2 → FieldAt C K H2 a W R → Q (.ref a) H2) → te σ H1 Q
section
variable {K : PySem.W.Frag} {σ : L2.St} {H : Hp} {C : Addr} {E E' : XK} {ta tw tf : TE} {W b k : Nat} {S L : List Pt} {Pr : List Pt → Prop}
theorem fdx_short (h1 : EvD K tw σ H (.int (W : Int))) (h2 : EvFd C K tf σ H W S) (hg : GoodS W b S) (hf : ∀ R, ShortOk W S R → FOk W R) : EvFdX C K (tMake C (spInit C K) [] E (tCons tw (tCons (tCall (spShort C K) [] E' (tCons tf tNil)) tNil))) σ H W (ShortOk W S) := fun H1 e Q q => by
  refine h1 H1 e _ fun vw H2 e2 hw => ?_
  obtain rfl := dp_int hw
  refine h2 H2 (ex_tr e e2) _ fun a0 H3 e3 hF => ?_
  refine ⟨a0, W, b, S, by simp, hF, hg, fun p xs R H4 hp e4 g1 g2 ok => ?_⟩
  refine fun a dx ha hdx hne => ?_
  have e5 : Ex H4 (upd (upd H4 dx (.own a)) a (.ins C dx [])) := fun b o hb => by
    rw [upd_ne (ne_of_none hb ha), upd_ne (ne_of_none hb hdx)]
    exact hb
  refine ⟨a, dx, _, W, R, R.map ptD, by simp, upd_same, (Dd.lst (SqL.of g1) g2).up e5, handed_pts R, hf R ok, fun H' l hl hF' hk => ⟨rfl, ?_⟩⟩
  exact q a R H' ok (ex_tr e2 (ex_tr e3 (ex_tr e4 fun b o hb => hk b o (e5 b o hb) (ne_of_none hb ha)))) hF'.at
theorem ef_stairsX (h : EvFdX C K ta σ H W Pr) (hg : ∀ R, Pr R → Good W k R ∧ stairP W R = L) : EvF K (tCall (spStairs C K) [] E (tCons ta tNil)) σ H (L.map ptD) := fun H1 e Q q =>
  h H1 e _ fun a R H2 hR e2 hF => by
    obtain ⟨g, eq⟩ := hg R hR
    refine ⟨a, W, k, R, by simp, hF, g, fun p xs H3 hp e3 h1 h2 => q p xs H3 (ex_back e2 hp) (ex_tr e2 e3) h1 (by rw [← eq]; exact h2)⟩
end
theorem tcountK {X : Cx} (K : PySem.W.Frag) (h : X.K = K := by rfl) : MtR X "tuple.count" (rCntT K) := by subst h; exact mt_tcount
theorem FieldL.ex1 {C : Addr} {K : PySem.W.Frag} {H H' : Hp} {a l s : Addr} {W : Nat} {S : List Pt} {ys : List V} (h : FieldL C K H a l W S) (e : Ex1 s H H') (hs : H s = some (.lst ys)) (hl : l ≠ s) : FieldL C K H' a l W S := by
  obtain ⟨dx, xs, h1, h2, h3⟩ := h
  exact ⟨dx, xs, e a _ h1 (by rintro rfl; rw [hs] at h1; cases h1), e l _ h2 hl, h3.tx (tex1 e hs) (tupOAll_map tupO_pt S)⟩
def AskOk (i W : Nat) (S R L : List Pt) : Prop := (i = 0 → L = stairP W S) ∧ (i = 1 → L = stairP W (S ++ R)) ∧ (i = 2 → L = commonP W S R) ∧ (i = 3 → ShortOk W S L)
def spAsk (C : Addr) (K : PySem.W.Frag) : Sp := fun vs H Q _ => ∃ (i : Nat) (a b : Addr) (W k : Nat) (S R : List Pt), vs = [.int (i : Int), .ref a, .ref b] ∧ i < 4 ∧ FieldAt C K H a W S ∧ FieldAt C K H b W R ∧ GoodS W 50 S ∧ Good W k (S ++ R) ∧ ComOk W k S R ∧
  ∀ p xs L H2, H p = none → Ex H H2 → H2 p = some (.lst xs) → DdAll K H2 xs (L.map ptD) → AskOk i W S R L → Q (.ref p) H2
end SF
namespace SF
open PySem PySem.Spec PyProof.Rows L2
structure OwnT (H0 H : Hp) (l : Addr) (ds : List Pt) : Prop where
  new : H0 l = none
  ex : Ex H0 H
  at_ : ∃ ps : List Addr, ps.length = ds.length ∧ H l = some (.lst (ps.map V.ref)) ∧ ∀ (t : Nat) (p : Addr) (d : Pt), ps[t]? = some p → ds[t]? = some d → H p = some (.lst (d.map V.int)) ∧ p ≠ l
section
variable {K : PySem.W.Frag} {σ : L2.St} {H0 H H' : Hp} {l : Addr} {ds : List Pt}
theorem OwnT.up (h : OwnT H0 H l ds) (e : Ex H H') : OwnT H0 H' l ds := by
  obtain ⟨ps, h1, h2, h3⟩ := h.at_
  exact ⟨h.new, ex_tr h.ex e, ps, h1, e _ _ h2, fun t p d hp hd => ⟨e _ _ (h3 t p d hp hd).1, (h3 t p d hp hd).2⟩⟩
theorem OwnT.dd (h : OwnT H0 H l ds) : Dd K H (.ref l) (.list (ds.map plD)) := by
  obtain ⟨ps, h1, h2, h3⟩ := h.at_
  refine .lst (SqL.of h2) (ddAll_of (by simp [h1]) fun t v d hv hd => ?_)
  rw [List.getElem?_map] at hv hd
  cases e1 : ps[t]? with
  | none => rw [e1] at hv; cases hv
  | some p =>
    cases e2 : ds[t]? with
    | none => rw [e2] at hd; cases hd
    | some x =>
      rw [e1] at hv
      rw [e2] at hd
      cases hv
      cases hd
      exact .lst (SqL.of (h3 t p x e1 e2).1) (DdAll.ints x)
theorem OwnT.app {p : Addr} {x : Pt} {xs : List V} (h : OwnT H0 H l ds) (hx : H l = some (.lst xs)) (hp : H p = some (.lst (x.map V.int))) (hn : p ≠ l) : OwnT H0 (upd H l (.lst (xs ++ [.ref p]))) l (ds ++ [x]) := by
  obtain ⟨ps, h1, h2, h3⟩ := h.at_
  rw [hx] at h2
  injection h2 with h2
  injection h2 with h2
  subst h2
  refine ⟨h.new, fun b o hb => ?_, ps ++ [p], by simp [h1], by rw [upd_same]; simp, fun t q d hq hd => ?_⟩
  · rw [upd_ne (by rintro rfl; rw [h.new] at hb; cases hb)]
    exact h.ex b o hb
  · by_cases z : t < ps.length
    · rw [List.getElem?_append_left z] at hq
      rw [List.getElem?_append_left (by omega)] at hd
      obtain ⟨a, b⟩ := h3 t q d hq hd
      exact ⟨by rw [upd_ne b]; exact a, b⟩
    · have zt : t = ps.length := by
        have := (List.getElem?_eq_some_iff.mp hq).1
        simp at this
        omega
      subst zt
      rw [List.getElem?_append_right (Nat.le_refl _), Nat.sub_self] at hq
      rw [List.getElem?_append_right (by omega), h1, Nat.sub_self] at hd
      cases hq
      cases hd
      exact ⟨by rw [upd_ne hn]; exact hp, hn⟩
theorem ev_lcL {wi : TI} {g : TG} {n : Nat} {B : Nat → Hp → L2.St → L2.St → Prop} {te : TE} {vs : List Nat} (v : Nat → Pt) (hi : EvI wi g σ H n B) (hn : n ≤ 50000) (hw : ∀ i H' σ', B i H' (wipe σ vs) σ' → wipe σ' vs = wipe σ vs)
    (hs : ∀ i H' σ', Ex H H' → i < n → B i H' (wipe σ vs) σ' → EvF K te σ' H' ((v i).map .int)) : EvD K (tLc wi g tYes te vs) σ H (.list (((List.range n).map v).map plD)) := fun H0 e Q q =>
  hi H0 e _ fun J H1 G e1 hG w Da hD => lc_feeds w (fun i H' => OwnT H1 H' Da ((List.range i).map v)) ⟨hD, ex_new hD, [], rfl, upd_same, fun t p d hp _ => by simp at hp⟩
    (fun i H' _ o => hG H' o.ex) (fun i H' H'' σ2 hin o e2 hB => ⟨hw i H'' σ2 hB, by
      have eH : Ex H H'' := ex_tr e (ex_tr e1 (ex_tr o.ex e2))
      refine et_yes H'' ex_refl _ fun H3 e3 => ?_
      have o3 := o.up (ex_tr e2 e3)
      show te σ2 H3 fun y H4 => ∃ acc, H4 Da = some (.lst acc) ∧ acc.length < sizeLine ∧ OwnT H1 (upd H4 Da (.lst (acc ++ [y]))) Da ((List.range (i + 1)).map v)
      refine hs i H'' σ2 eH hin hB H3 e3 _ fun p xs H4 hp e4 h1 h2 => ?_
      have o4 := o3.up e4
      obtain ⟨ps, k1, k2, k3⟩ := o4.at_
      refine ⟨_, k2, Evl.sz_lt (by rw [List.length_map, k1, List.length_map, List.length_range]; omega), ?_⟩
      rw [List.range_succ, List.map_append]
      refine o4.app k2 (by rw [h1, dp_ints h2]) ?_
      rintro rfl
      obtain ⟨ps3, _, z, _⟩ := o3.at_
      rw [z] at hp
      cases hp⟩) (fun H' o => by
      have := o.dd (K := K)
      exact q _ H' (ex_tr e1 o.ex) this)
end
def rowT (n : Nat) (a : Nat → Nat → Int) (i : Nat) : Pt := (List.range n).map (a i)
def tabL (n : Nat) (a : Nat → Nat → Int) : List PyData := ((List.range n).map (rowT n a)).map plD
theorem rowT_len (n : Nat) (a : Nat → Nat → Int) (i : Nat) : (rowT n a i).length = n := by simp [rowT]
theorem rowT_vf {n : Nat} {a : Nat → Nat → Int} {i j : Nat} (h : j < n) : vf (rowT n a i) j = a i j := by unfold rowT vf; simp [List.getD_eq_getElem?_getD, h]
theorem tabL_len (n : Nat) (a : Nat → Nat → Int) : (tabL n a).length = n := by simp [tabL]
theorem tabL_get {n : Nat} {a : Nat → Nat → Int} {i : Nat} (h : i < n) : (tabL n a)[i]? = some (plD (rowT n a i)) := by unfold tabL; simp [h]
theorem tabL_flat (n : Nat) (a : Nat → Nat → Int) : ∀ (l : List Nat), PyData.canLayAll0 ((l.map (rowT n a)).map plD) = true ∧ PyData.depthAll ((l.map (rowT n a)).map plD) ≤ 1
  | [] => ⟨rfl, Nat.zero_le _⟩
  | i :: l => by
    obtain ⟨x, y⟩ := tabL_flat n a l
    obtain ⟨c, d⟩ := ints_flat (rowT n a i)
    rw [List.map_cons, List.map_cons]
    constructor
    · simp [PyData.canLayAll0, plD, PyData.canLay0, c]
      simpa using x
    · simp only [PyData.depthAll, plD, PyData.depth, d]
      omega
theorem shaped_tab (n : Nat) (a : Nat → Nat → Int) : SeqAt.shaped (.list (tabL n a)) = true := by
  obtain ⟨c, d⟩ := tabL_flat n a (List.range n)
  have e : (PyData.list (tabL n a)).depth ≤ 64 := by
    rw [PyData.depth]
    unfold tabL
    omega
  unfold SeqAt.shaped
  unfold tabL at e ⊢
  simp [PyData.canLay0]
  exact ⟨by simpa using c, by simpa using e⟩
theorem eqv_tab (n : Nat) (a : Nat → Nat → Int) : PyData.eqv (.list (tabL n a)) (.list []) = decide (n = 0) := by
  rw [PyData.eqv]
  rcases n with _ | n
  · rfl
  · unfold tabL
    rw [List.range_succ_eq_map]
    simp [PyData.eqvAll]
theorem skip_row {n k : Nat} {a : Nat → Nat → Int} {i : Nat} (hk : k < n + 1) : (rowT (n + 1) a (i + 1)).take k ++ (rowT (n + 1) a (i + 1)).drop (k + 1) = rowT n (minorN k a) i := by
  refine pt_ext ?_ fun j hj => ?_
  · simp [rowT]; omega
  · have hj' : j < n := by simp [rowT] at hj; omega
    rw [rowT_vf hj']
    unfold minorN vf
    rw [List.getD_eq_getElem?_getD]
    by_cases z : j < k
    · rw [if_pos z, List.getElem?_append_left (by simp [rowT]; omega), List.getElem?_take_of_lt z]
      simp [rowT, show j < n + 1 by omega]
    · rw [if_neg z, List.getElem?_append_right (by simp [rowT]; omega), List.getElem?_drop]
      have : k + 1 + (j - (List.take k (rowT (n + 1) a (i + 1))).length) = j + 1 := by simp [rowT]; omega
      rw [this]
      simp [rowT, show j + 1 < n + 1 by omega]
theorem sgn_abs : ∀ k, (sgn k).natAbs = 1
  | 0 => rfl
  | k + 1 => by show (-sgn k).natAbs = 1; rw [Int.natAbs_neg]; exact sgn_abs k
theorem detN_bd {X : Nat} : ∀ {n : Nat} {a : Nat → Nat → Int}, n ≤ 7 → (∀ i j, (a i j).natAbs ≤ 2 ^ X) → (detN n a).natAbs ≤ 2 ^ (n * (X + 3))
  | 0, a, _, _ => by rw [Nat.zero_mul]; exact Nat.le_refl 1
  | n + 1, a, hn, h => by
    have := sumN_bd (n := n + 1) (f := fun k => sgn k * a 0 k * detN n (minorN k a)) (B := 2 ^ X * 2 ^ (n * (X + 3))) fun k _ => by
      rw [Int.natAbs_mul, Int.natAbs_mul, sgn_abs, Nat.one_mul]
      exact Nat.mul_le_mul (h 0 k) (detN_bd (by omega) fun i j => h _ _)
    refine Nat.le_trans this ?_
    have e : 2 ^ ((n + 1) * (X + 3)) = 8 * (2 ^ X * 2 ^ (n * (X + 3))) := by
      rw [← Nat.pow_add, show (n + 1) * (X + 3) = 3 + (X + n * (X + 3)) by rw [Nat.succ_mul]; omega, Nat.pow_add]
    rw [e]
    exact Nat.mul_le_mul_right _ (by omega)
def RDet (m : Nat) (ds : List PyData) (d : PyData) : Prop := ∃ (n X : Nat) (a : Nat → Nat → Int), n ≤ m ∧ n ≤ 4 ∧ ds = [.list (tabL n a)] ∧ d = .int (detN n a) ∧ (∀ i j, (a i j).natAbs ≤ 2 ^ X) ∧ 5 * X + 100 < 100000000
def RRoomL (ds : List PyData) (d : PyData) : Prop := ∃ (W X : Nat) (R : List Pt), ds = [.list (R.map ptD)] ∧ d = .int (dd (gr W R) R.length) ∧ W ≤ 4 ∧ R.length ≤ 4 ∧ (∀ p ∈ R, p.length = W ∧ Bd X p) ∧ 12 * X + 200 < 100000000
end SF
namespace SF
open PySem PySem.Spec PyProof.Rows L2
structure ErrC (K : PySem.W.Frag) (mg : Str → Option Value) (x : Str) (D : Addr) : Prop where
  gX : mg x = some (.ref D)
  xX : PySem.W.excIn K D [.type "ValueError", .type "Exception", .type "BaseException", .type "object"] "ValueError.__new__" = true
  kX : PySem.W.keepIn K (.ref D) = true
  bX : PySem.W.subIn K (.ref D) (.type "BaseException") = some true
  tX : PySem.W.typeIn K (.ref D) = some (.type "type")
  dX : PySem.W.hasDictIn K D = true
section
variable {K : PySem.W.Frag} {mg : Str → Option Value} {x : Str} {D D2 : Addr}
theorem ErrC.exm (E : ErrC K mg x D) {cls : Value} {b : Bool} (h : PySem.W.subIn K cls (.ref D) = some b) : PySem.W.exmOne K cls (.ref D) = some b := PySem.W.exm_ref E.bX E.dX E.tX h
theorem ErrC.rs {X : Cx} (E : ErrC X.K mg x D) : Raises X (.ref D) := raises_own E.bX E.tX
end
theorem pss_no {X : Cx} {b : List Stmt} : PSs X b (fun _ _ _ => False) := ⟨fun _ _ _ _ _ _ h => h.elim⟩
structure CalX (P : Program) (w : World) (K : PySem.W.Frag) (mg : Str → Option Value) (base : Heap) (k : Nat) (x : Str) (ps : List Str) (sp : Sp) : Prop where
  ex : ∃ (f : Addr) (fd : FuncData), FnOk P w K mg base (L2.CX P w) k f fd ps sp ∧ mg x = some (.ref f) ∧ PySem.W.keepIn K (.ref f) = true ∧ Binds K fd ps []
theorem pe_calX {X : Cx} {W : WX} {k j : Nat} {x : Str} {ps : List Str} {sp : Sp} {e : Expr} {es : List Expr} {t : TA} {p pos : Pos} (C : CalX X.prog X.w X.K X.mg X.base k x ps sp) (hr : Room j X.A) (hk : k ≤ j) (tk : Takes X W) (hg : Gl X x) (ha : PA X (e :: es) t)
    (hdb : (x == ("__debug__" : Str)) = false := by decide) (he : starEach (e :: es) X.env = (false, eval e X.env) :: starEach es X.env := by rfl) (hpl : (backTo pos (starEach es X.env)).any (·.1) = false := by rfl) :
    PE X (.Call (.Name x p) (e :: es) [] pos) (tCallS sp (WE W) t) := by
  obtain ⟨f, fd, F, hm, hkp, hb⟩ := C.ex
  exact pe_callS F (hr.mono hk) hg hm hkp hb (fun σ => passAt tk σ) ha hdb he hpl
def spReachX (C D : Addr) (K : PySem.W.Frag) : Sp := fun vs H Q E => ∃ (a : Addr) (u : V) (W : Nat) (S : List Pt) (p : Pt) (k : Bool), vs = [.ref a, u] ∧ FieldAt C K H a W S ∧ Dd K H u (seqD k (p.map .int)) ∧ p.length ≠ W ∧ ∀ H2, Ex H H2 → E (.ref D) none H2
def spRefused (C : Addr) (K : PySem.W.Frag) : Sp := fun vs H Q _ => ∃ (a : Addr) (u : V) (W : Nat) (S : List Pt) (p : Pt) (k : Bool), vs = [.ref a, u] ∧ FieldAt C K H a W S ∧ Dd K H u (seqD k (p.map .int)) ∧ p.length ≠ W ∧ ∀ H2, Ex H H2 → Q (.bl true) H2
theorem er_refused {C : Addr} {K : PySem.W.Frag} {σ : L2.St} {H : Hp} {E : XK} {tf tp : TE} {W : Nat} {S : List Pt} {p : Pt} {k : Bool} (h1 : EvFd C K tf σ H W S) (h2 : EvD K tp σ H (seqD k (p.map .int))) (hne : p.length ≠ W) :
    EvD K (tCall (spRefused C K) [] E (tCons tf (tCons tp tNil))) σ H (.bool true) := fun H0 e0 Q q =>
  h1 H0 e0 _ fun a H1 e1 hF => h2 H1 (ex_tr e0 e1) _ fun u H2 e2 hu => ⟨a, u, W, S, p, k, by simp, hF.up e2, hu, hne, fun H3 e3 => q _ H3 (ex_tr e1 (ex_tr e2 e3)) (.bl true)⟩
end SF
namespace SF
open PySem PySem.Spec PyProof.Rows L2
def rIsP (K : PySem.W.Frag) (a : Addr) (cls : Value) (d : Option Addr) : List V → Hp → VK → Prop := fun xs H Q => ∃ (D : Addr) (c : V) (cv : Value) (b : Bool), cls = .ref D ∧ d = none ∧ ExcC K D ∧ xs = [.ref a, c] ∧ (∀ u, RelV c u → u = cv) ∧ PySem.W.kitOne K (.ref D) cv = some b ∧ Q (.bl b) H
theorem call_isP {X : Cx} {cls : Value} {d : Option Addr} {p : Addr × Obj} (hm : p ∈ X.pn) (hz : Zc cls d p.2) (hf : ∃ fs, p.2.data = .fields fs) : CallR X (.builtin "isinstance") (rIsP X.K p.1 cls d) := by
  rintro pins s σ H xs us Q I r ⟨D, c, cv, b, rfl, rfl, EC, rfl, hcv, hk, q⟩
  obtain ⟨u1, us1, rfl, r1, r2⟩ : ∃ u1 us1, us = u1 :: us1 ∧ RelV (.ref p.1) u1 ∧ Vals [c] us1 := by
    cases r with
    | cons h1 h2 => exact ⟨_, _, rfl, h1, h2⟩
  obtain ⟨u2, rfl, r3⟩ : ∃ u2, us1 = [u2] ∧ RelV c u2 := by
    cases r2 with
    | cons h1 h2 => cases h2; exact ⟨_, rfl, h1⟩
  obtain rfl : u1 = Value.ref p.1 := r1
  obtain rfl := hcv _ r3
  obtain ⟨fs, hfs⟩ := hf
  have there := (I.pin p (List.mem_append_left _ hm)).1
  have inst : PySem.W.InstAt s.heap p.1 p.2 D none := by
    obtain ⟨pa, c0, d0, dt, sl⟩ := p
    obtain ⟨z1, z2⟩ := hz
    dsimp only at z1 z2 hfs
    subst z1 z2 hfs
    exact ⟨there, rfl, rfl, trivial⟩
  have kx := PySem.W.handS_kitx_exc (x := p.1) (ox := p.2) EC.hg EC.hk EC.hs EC.hd EC.ha EC.hn EC.ht EC.hm
  exact PySem.W.kia_one kx I.kIn inst hk (by intro z; cases z) fun tk => ⟨.bl b, H, I.kept (t' := tk) fun _ _ z => z, rfl, q⟩
abbrev SpP := Addr → Value → Option Addr → Sp
structure FnP (P : Program) (w : World) (K : PySem.W.Frag) (mg : Str → Option Value) (base : Heap) (k : Nat) (f : Addr) (fd : FuncData) (ps : List Str) (sp : SpP) : Prop where
  len : ∀ a cls d vs H Q E, sp a cls d vs H Q E → vs.length = ps.length
  run : ∀ (A : Around) (out : List Env) (s : Shared) (H : Hp) (args : Args) (us : List Value) (vs : List V) (Q : VK) (p : Addr × Obj) (cls : Value) (d : Option Addr), L2H.RoomH k A → L2H.PinOk out H s p → Zc cls d p.2 → (∃ fs, p.2.data = .fields fs) →
    Env0 P w K mg base A out s H → BindsTo s fd args (ps.zip us) → Vals vs us → sp p.1 cls d vs H Q E0 → codeAny (model P w) A (.call (.ref f) args) (CR L2.CX0 out P w H s Q E0) s
section
variable {P : Program} {w : World} {K : PySem.W.Frag} {mg : Str → Option Value} {base : Heap}
theorem Fun.okP {x qual : Str} {st : Stmt} {f : Addr} {fd : FuncData} {N ps : List Str} {k : Nat} {sp : SpP} (F : Fun K x qual st f fd) (Z : FnScope N ps (defScope st)) (len : ∀ a cls d vs H Q E, sp a cls d vs H Q E → vs.length = ps.length)
    (walk : ∀ (cdv : Value) (A : Around) (out : List Env) (s : Shared) (H : Hp) (vs : List V) (Q : VK) (p : Addr × Obj) (cls : Value) (d : Option Addr), Zc cls d p.2 → (∃ fs, p.2.data = .fields fs) → sp p.1 cls d vs H Q E0 →
      ∃ t, PSs (L2H.cxH L2.CX0 P w K mg base N qual (defScope st) f cdv A out s H E0 p) (defBody st) t ∧ t { nx := fun _ H' => Q .non H', rt := Q } (L2.start N vs) H) : FnP P w K mg base (k + 1) f fd ps sp := by
  obtain ⟨oc, od, kV, doc, pm, an, cdv, ct, osl, rfl, atF, isC⟩ := F.ex
  refine ⟨len, fun A out s H args us vs Q p cls d room pin zc fl e0 bind vals told => ?_⟩
  have many := len _ _ _ _ _ _ _ told
  have inS : K.In s.heap := e0.mod.kin.keeps fun b o z => (e0.bs b o z).1
  refine codeAny_call_function room.depth (inS _ _ atF) rfl Z.co Z.gen rfl (PySem.W.codeRec_of inS isC) (bind _ _ _ _ ?_)
  refine wpAny_newFunctionEnv_cells Z.kind (fun ⟨n, v⟩ hy => (Z.par n (List.of_mem_zip hy).1).elim .inl fun c => .inr ⟨c, PySem.W.cellsFrom_some _ _ _ (.inl c)⟩) fun env he s1 made => ?_
  subst he
  refine ⟨(e0.mod.nolimit.keeps fun b o z => (e0.bs b o z).1).keeps made.toInCall.keep, codeAny_func ?_⟩
  obtain ⟨t, body, read⟩ := walk cdv A out s H vs Q p cls d zc fl told
  have start : Inv (L2H.cxH L2.CX0 P w K mg base N qual (defScope st) f cdv A out s H E0 p) [] (L2.start N vs) H s1 := L2H.inv_startH Z pin e0 many vals made
  refine wpAny_mono (body.run [] s1 (L2.start N vs) H _ start read) (fun way s' got => ?_) fun _ _ z => z
  match way, got with
  | .ret _, ⟨v, σ2, H2, J, rv, q⟩ => exact ⟨v, H2, J.os, J.bare, J.base, J.hok, rv, q⟩
  | .next, ⟨σ2, H2, J, q⟩ => exact ⟨V.non, H2, J.os, J.bare, J.base, J.hok, rfl, q⟩
  | .brk, ⟨_, _, _, q⟩ => exact q.elim
  | .cont, ⟨_, _, _, q⟩ => exact q.elim
structure CalP (P : Program) (w : World) (K : PySem.W.Frag) (mg : Str → Option Value) (base : Heap) (k : Nat) (x : Str) (ps : List Str) (sp : SpP) : Prop where
  ex : ∃ (f : Addr) (fd : FuncData), FnP P w K mg base k f fd ps sp ∧ mg x = some (.ref f) ∧ PySem.W.keepIn K (.ref f) = true ∧ Binds K fd ps []
end
theorem roomH_mark {k : Nat} {A : Around} {v : Option Value} (r : L2H.RoomH k A) : L2H.RoomH k (A.mark v) := ⟨r.dp, r.un⟩
def tCallP (sp : SpP) (a : Addr) (cls : Value) (d : Option Addr) (t : TA) : TE := fun σ H Q => t σ H fun vs H1 => sp a cls d vs H1 Q E0
theorem pe_calP {X : Cx} {k j : Nat} {x : Str} {ps : List Str} {sp : SpP} {cls : Value} {d : Option Addr} {a0 : Addr} {oe : Obj} {e : Expr} {es : List Expr} {t : TA} {np pos : Pos} (C : CalP X.prog X.w X.K X.mg X.base k x ps sp) (hr : L2H.RoomH j X.A) (hk : k ≤ j)
    (hm : (a0, oe) ∈ X.pn) (hz : Zc cls d oe) (hf : ∃ fs, oe.data = .fields fs) (hg : Gl X x) (ha : PA X (e :: es) t)
    (hdb : (x == ("__debug__" : Str)) = false := by decide) (he : starEach (e :: es) X.env = (false, eval e X.env) :: starEach es X.env := by rfl) (hpl : (backTo pos (starEach es X.env)).any (·.1) = false := by rfl) :
    PE X (.Call (.Name x np) (e :: es) [] pos) (tCallP sp a0 cls d t) := by
  obtain ⟨f, fd, F, at_, kp, bi⟩ := C.ex
  refine ⟨fun pins s σ H Q I asked => wpAny_Call_Name_kw (ld_glob I hg at_ ?_ hdb)⟩
  refine PySem.W.callWith_K (h₀ := X.base) I.ok.mod.kin kp (thn (ha.run pos pins s σ H _ I asked) fun us s1 hx => ?_) he hpl
  obtain ⟨vs, H1, I1, vals, told⟩ := hx
  refine ⟨I1.kIn, ?_⟩
  have b := bi s1 us I1.kIn (by rw [List.append_nil, ← vals.length]; exact F.len _ _ _ _ _ _ _ told)
  rw [List.append_nil] at b
  obtain ⟨here, free, notL, notF, noC⟩ := I1.pin (a0, oe) (List.mem_append_left _ hm)
  have pin : L2H.PinOk X.stack H1 s1 (a0, oe) := ⟨here, free, fun z => by rcases List.mem_cons.mp (I1.stkSub a0 z) with y | y <;> contradiction, noC⟩
  refine wpAny_call (codeAny_mono (F.run X.A X.stack s1 H1 ⟨us, []⟩ us vs Q (a0, oe) cls d (hr.mono hk) pin hz hf I1.env0 b vals told) fun way s2 got => ?_)
  match way, got with
  | .error _, z => exact z.elim
  | .ok (.ret _), z => exact I1.after z
  | .ok .next, z => exact z.elim
  | .ok .brk, z => exact z.elim
  | .ok .cont, z => exact z.elim
def spWhich (K : PySem.W.Frag) (C1 C2 C3 C4 C5 : Addr) : SpP := fun a cls d vs H Q _ => ∃ (D : Addr) (b1 b2 b3 b4 b5 b6 : Bool), vs = [.ref a] ∧ cls = .ref D ∧ d = none ∧ ExcC K D ∧
  PySem.W.kitOne K (.ref D) (.ref C1) = some b1 ∧ PySem.W.kitOne K (.ref D) (.ref C2) = some b2 ∧ PySem.W.kitOne K (.ref D) (.ref C3) = some b3 ∧ PySem.W.kitOne K (.ref D) (.ref C4) = some b4 ∧ PySem.W.kitOne K (.ref D) (.ref C5) = some b5 ∧
  PySem.W.kitOne K (.ref D) (.type "ValueError") = some b6 ∧ ∀ l xs H2, H l = none → Ex H H2 → H2 l = some (.lst xs) → DdAll K H2 xs [.bool b1, .bool b2, .bool b3, .bool b4, .bool b5, .bool b6] → Q (.ref l) H2
end SF
namespace SF
open PySem PySem.Spec PyProof.Rows L2
def spUnlikeX (C D : Addr) (K : PySem.W.Frag) : Sp := fun vs H Q E => ∃ (a b : Addr) (W W2 : Nat) (S R : List Pt), vs = [.ref a, .ref b] ∧ FieldAt C K H a W S ∧ FieldAt C K H b W2 R ∧ W ≠ W2 ∧ ∀ H2, Ex H H2 → E (.ref D) none H2
theorem eqv_intD (a b : Int) : PyData.eqv (.int a) (.int b) = decide (a = b) := by
  show (a == b) = _
  rw [Bool.eq_iff_iff, decide_eq_true_eq, beq_iff_eq]
def dueD (p : Int) : List PyData := ([0, 1, 2, 3, 4] : List Int).map (fun k => .bool (decide (k = p))) ++ [.bool true]
def RDue (ds es : List PyData) : Prop := ∃ p : Int, ds = [.int p] ∧ es = dueD p
def spAsked (C : Addr) (K : PySem.W.Frag) : Sp := fun vs H Q _ => ∃ (way : Int) (a b : Addr) (W W2 : Nat) (S R : List Pt), vs = [.int way, .ref a, .ref b] ∧ FieldAt C K H a W S ∧ FieldAt C K H b W2 R ∧
  (W = W2 → ∃ k, Good W k S ∧ Good W k R ∧ Good W k (S ++ R) ∧ ComOk W k S R) ∧
  ∀ l xs H2 ds, H l = none → Ex H H2 → H2 l = some (.lst xs) → DdAll K H2 xs ds → (W ≠ W2 → ds = dueD 4) → (W = W2 → ds.length = 1) → Q (.ref l) H2
section
variable {K : PySem.W.Frag} {σ : L2.St} {H : Hp} {C : Addr} {E : XK} {W : Nat}
theorem er_makeG {Pr : List Pt → Prop} {sp : Addr} {iw : Nat} {ts : TE} (hw : σ[iw]? = some (some (.int (W : Int))))
    (h : EvR ts σ H (fun v H' => ∃ l xs S p', v = .ref l ∧ Ex1 sp H H' ∧ H' sp = some (.lst [.int ((p' : Nat) : Int)]) ∧ H' l = some (.lst xs) ∧ DdAll K H' xs (S.map ptD) ∧ FOk W S ∧ Pr S)) :
    EvR (tMake C (spInit C K) [] E (tCons (tVar iw) (tCons ts tNil))) σ H (fun v H' => ∃ a l S p', v = .ref a ∧ Ex1 sp H H' ∧ H' sp = some (.lst [.int ((p' : Nat) : Int)]) ∧ FieldL C K H' a l W S ∧ l ≠ sp ∧ Pr S) := fun Q q => by
  refine ⟨_, hw, h _ ?_⟩
  rintro v H2 ⟨l, xs, S, p', rfl, e2, g2, hl2, hd, fok, hS⟩
  refine fun a dx ha hdx hne => ?_
  have e3 : Ex H2 (upd (upd H2 dx (.own a)) a (.ins C dx [])) := fun b o hb => by
    rw [upd_ne (ne_of_none hb ha), upd_ne (ne_of_none hb hdx)]
    exact hb
  refine ⟨a, dx, _, W, S, S.map ptD, by simp, upd_same, (Dd.lst (SqL.of hl2) hd).up e3, handed_pts S, fok, fun H' l' hl' hF' hk => ⟨rfl, ?_⟩⟩
  have e4 : Ex H2 H' := fun b o hb => hk b o (e3 b o hb) (ne_of_none hb ha)
  exact q _ H' ⟨a, l', S, p', rfl, ex1_tr e2 (ex1_of e4), e4 sp _ g2, hF', (by rintro rfl; rw [e3 _ _ g2] at hl'; cases hl'), hS⟩
theorem FieldL.ex1b {a l s : Addr} {H' : Hp} {S : List Pt} {ys : List V} (h : FieldL C K H a l W S) (e : Ex1 s H H') (hs : H s = some (.lst ys)) (hl : l ≠ s) : FieldL C K H' a l W S := by
  obtain ⟨dx, xs, h1, h2, h3⟩ := h
  exact ⟨dx, xs, e a _ h1 (by rintro rfl; rw [hs] at h1; cases h1), e l _ h2 hl, h3.tx (tex1 e hs) (tupOAll_map tupO_pt S)⟩
end
end SF
namespace SF
open PySem PySem.Spec PyProof.Rows L2
structure CalMX (P : Program) (w : World) (K : PySem.W.Frag) (mg : Str → Option Value) (base : Heap) (k : Nat) (x : Str) (C : Addr) (ps : List Str) (sp : Sp) : Prop where
  ex : ∃ (f : Addr) (fd : FuncData), Mk K C f ∧ FnOk P w K mg base (L2.CX P w) k f fd ps sp ∧ mg x = some (.ref C) ∧ Binds K fd ps []
def EAny (n : Nat) (W : WX) : XK := fun cls d H => ∀ σ : L2.St, σ.length = n → W cls d σ H
theorem pe_mkX {X : Cx} {W : WX} {k j n : Nat} {x : Str} {C : Addr} {ps : List Str} {sp : Sp} {e : Expr} {es : List Expr} {t : TA} {p pos : Pos} (M : CalMX X.prog X.w X.K X.mg X.base k x C ps sp) (hr : Room j X.A) (hk : k + 1 ≤ j) (tk : Takes X W) (hg : Gl X x) (ha : PA X (e :: es) t)
    (hdb : (x == ("__debug__" : Str)) = false := by decide) (he : starEach (e :: es) X.env = (false, eval e X.env) :: starEach es X.env := by rfl) (hpl : (backTo pos (starEach es X.env)).any (·.1) = false := by rfl) (hN : X.N.length = n := by rfl) :
    PE X (.Call (.Name x p) (e :: es) [] pos) (tMake C sp [] (EAny n W) t) := by
  obtain ⟨f, fd, m, F, hm, hb⟩ := M.ex
  exact pe_make m F (hr.mono hk) hg hm hb .nil (fun pins σ H s e s' I c => tk e s' (XE.of_call I (fun cls d H' h => h σ (I.len.trans hN)) c)) ha hdb he hpl
def placeOf (w : Int) (S : List Pt) : Int := if ¬ (1 ≤ w ∧ w ≤ 4) then 1 else if 6 < S.length then 3 else if S.all (fun p => decide ((p.length : Int) = w)) = true then -1 else 0
theorem place_1 {w : Int} {S : List Pt} (h : placeOf w S = 1) : ¬ (1 ≤ w ∧ w ≤ 4) := fun z => by
  unfold placeOf at h
  rw [if_neg (fun y => y z)] at h
  split at h
  · omega
  · split at h <;> omega
theorem place_3 {w : Int} {S : List Pt} (h : placeOf w S = 3) : (1 ≤ w ∧ w ≤ 4) ∧ 6 < S.length := by
  unfold placeOf at h
  split at h
  · omega
  · rename_i a
    split at h
    · rename_i b
      exact ⟨by omega, b⟩
    · split at h <;> omega
theorem place_0 {w : Int} {S : List Pt} (h : placeOf w S = 0) : (1 ≤ w ∧ w ≤ 4) ∧ S.length ≤ 6 ∧ ∃ k, k < S.length ∧ ((S.getD k []).length : Int) ≠ w := by
  unfold placeOf at h
  split at h
  · omega
  · rename_i a
    split at h
    · omega
    · rename_i b
      split at h
      · omega
      · rename_i c
        refine ⟨by omega, by omega, ?_⟩
        rw [List.all_eq_true] at c
        by_cases z : ∃ k, k < S.length ∧ ((S.getD k []).length : Int) ≠ w
        · exact z
        · exfalso
          refine c fun p hp => decide_eq_true ?_
          obtain ⟨k, hk, rfl⟩ := List.mem_iff_getElem.mp hp
          by_cases y : ((S[k]).length : Int) = w
          · exact y
          · exfalso
            exact z ⟨k, hk, by rw [List.getD_eq_getElem?_getD, List.getElem?_eq_getElem hk]; exact y⟩
theorem place_ok {w : Int} {S : List Pt} (h : placeOf w S = -1) : ∃ W : Nat, w = (W : Int) ∧ FOk W S := by
  unfold placeOf at h
  split at h
  · omega
  · rename_i a
    split at h
    · omega
    · rename_i b
      split at h
      · rename_i c
        rw [List.all_eq_true] at c
        refine ⟨w.toNat, by omega, by omega, by omega, by omega, fun k hk => ?_⟩
        have := of_decide_eq_true (c (S.getD k []) (by rw [List.getD_eq_getElem?_getD, List.getElem?_eq_getElem hk]; exact List.getElem_mem hk))
        omega
      · omega
theorem place_all (w : Int) (S : List Pt) : placeOf w S = 1 ∨ placeOf w S = 3 ∨ placeOf w S = 0 ∨ placeOf w S = -1 := by
  unfold placeOf
  split
  · exact .inl rfl
  · split
    · exact .inr (.inl rfl)
    · split
      · exact .inr (.inr (.inr rfl))
      · exact .inr (.inr (.inl rfl))
def spInitX (C D1 D2 D4 : Addr) (K : PySem.W.Frag) : Sp := fun vs H Q E => ∃ (p dx : Addr) (x : V) (w : Int) (S : List Pt), vs = [.ref p, .int w, x] ∧ H p = some (.ins C dx []) ∧ Dd K H x (.list (S.map ptD)) ∧ S.length ≤ 1000 ∧
  ((placeOf w S = 1 ∧ ∀ H2, Ex H H2 → E (.ref D2) none H2) ∨ (placeOf w S = 3 ∧ ∀ H2, Ex H H2 → E (.ref D4) none H2) ∨ (placeOf w S = 0 ∧ ∀ H2, Ex H H2 → E (.ref D1) none H2))
def spAskF (K : PySem.W.Frag) : Sp := fun vs H Q _ => ∃ (w : Int) (x : V) (S : List Pt), vs = [.int w, x] ∧ Dd K H x (.list (S.map ptD)) ∧ S.length ≤ 1000 ∧
  ∀ l xs H2 ds, H l = none → Ex H H2 → H2 l = some (.lst xs) → DdAll K H2 xs ds → (ds = if placeOf w S = -1 then [.int w, .list (S.map ptD)] else dueD (placeOf w S)) → Q (.ref l) H2
def spSpoilt (K : PySem.W.Frag) : Sp := fun vs H Q _ => ∃ (x : V) (ns : List Int) (w : Int) (l : Addr) (xs : List V) (S : List Pt), vs = [x, .int w, .ref l] ∧ Scr K H x ns ∧ ns.length ≤ 1000 ∧ H l = some (.lst xs) ∧ DdAll K H xs (S.map ptD) ∧ S.length ≤ 6 ∧ (∀ p ∈ S, p.length ≤ 4) ∧
  ∀ (t l' : Addr) (xs' : List V) (w' : Int) (S' : List Pt) H', Ex H H' → ZT H' t [.int w', .ref l'] → H' l' = some (.lst xs') → DdAll K H' xs' (S'.map ptD) → S'.length ≤ 100 → (∀ p ∈ S', p.length ≤ 100) → Q (.ref t) H'
theorem ef_askF {K : PySem.W.Frag} {σ : L2.St} {H : Hp} {E : XK} {tw ts : TE} {w : Int} {S : List Pt} (h1 : EvD K tw σ H (.int w)) (h2 : EvD K ts σ H (.list (S.map ptD))) (hn : S.length ≤ 1000) :
    EvF K (tCall (spAskF K) [] E (tCons tw (tCons ts tNil))) σ H (if placeOf w S = -1 then [.int w, .list (S.map ptD)] else dueD (placeOf w S)) := fun H1 e Q q =>
  h1 H1 e _ fun v H2 e2 hv => h2 H2 (ex_tr e e2) _ fun u H3 e3 hu => by
    obtain rfl := dp_int hv
    exact ⟨w, u, S, by simp, hu, hn, fun l xs H4 ds hl e4 h4 hd hds => q l xs H4 (ex_back (ex_tr e2 e3) hl) (ex_tr e2 (ex_tr e3 e4)) h4 (by rw [← hds]; exact hd)⟩
structure OwnN (H0 H : Hp) (l : Addr) (ds : List Pt) : Prop where
  new : H0 l = none
  ex : Ex H0 H
  at_ : ∃ ps : List Addr, ps.length = ds.length ∧ H l = some (.lst (ps.map V.ref)) ∧ ∀ (t : Nat) (p : Addr) (d : Pt), ps[t]? = some p → ds[t]? = some d → H p = some (.lst (d.map V.int)) ∧ p ≠ l ∧ H0 p = none
section
variable {K : PySem.W.Frag} {σ : L2.St} {H0 H H' : Hp} {l : Addr} {ds : List Pt}
theorem OwnN.up (h : OwnN H0 H l ds) (e : Ex H H') : OwnN H0 H' l ds := by
  obtain ⟨ps, h1, h2, h3⟩ := h.at_
  exact ⟨h.new, ex_tr h.ex e, ps, h1, e _ _ h2, fun t p d hp hd => ⟨e _ _ (h3 t p d hp hd).1, (h3 t p d hp hd).2⟩⟩
theorem OwnN.own (h : OwnN H0 H l ds) : OwnT H0 H l ds := by
  obtain ⟨ps, h1, h2, h3⟩ := h.at_
  exact ⟨h.new, h.ex, ps, h1, h2, fun t p d hp hd => ⟨(h3 t p d hp hd).1, (h3 t p d hp hd).2.1⟩⟩
theorem OwnN.app {p : Addr} {x : Pt} {xs : List V} (h : OwnN H0 H l ds) (hx : H l = some (.lst xs)) (hp : H p = some (.lst (x.map V.int))) (hn : p ≠ l) (h0 : H0 p = none) : OwnN H0 (upd H l (.lst (xs ++ [.ref p]))) l (ds ++ [x]) := by
  obtain ⟨ps, h1, h2, h3⟩ := h.at_
  rw [hx] at h2
  injection h2 with h2
  injection h2 with h2
  subst h2
  refine ⟨h.new, fun b o hb => ?_, ps ++ [p], by simp [h1], by rw [upd_same]; simp, fun t q d hq hd => ?_⟩
  · rw [upd_ne (by rintro rfl; rw [h.new] at hb; cases hb)]
    exact h.ex b o hb
  · by_cases z : t < ps.length
    · rw [List.getElem?_append_left z] at hq
      rw [List.getElem?_append_left (by omega)] at hd
      obtain ⟨a, b, c⟩ := h3 t q d hq hd
      exact ⟨by rw [upd_ne b]; exact a, b, c⟩
    · have zt : t = ps.length := by
        have := (List.getElem?_eq_some_iff.mp hq).1
        simp at this
        omega
      subst zt
      rw [List.getElem?_append_right (Nat.le_refl _), Nat.sub_self] at hq
      rw [List.getElem?_append_right (by omega), h1, Nat.sub_self] at hd
      cases hq
      cases hd
      exact ⟨by rw [upd_ne hn]; exact hp, hn, h0⟩
theorem er_lcN {wi : TI} {g : TG} {n : Nat} {B : Nat → Hp → L2.St → L2.St → Prop} {te : TE} {vs : List Nat} (v : Nat → Pt) (hi : EvI wi g σ H n B) (hn : n ≤ 50000) (hw : ∀ i H' σ', B i H' (wipe σ vs) σ' → wipe σ' vs = wipe σ vs)
    (hs : ∀ i H' σ', Ex H H' → i < n → B i H' (wipe σ vs) σ' → EvF K te σ' H' ((v i).map .int)) : EvR (tLc wi g tYes te vs) σ H (fun x H' => ∃ l, x = .ref l ∧ OwnN H H' l ((List.range n).map v)) := fun Q q =>
  hi H ex_refl _ fun J H1 G e1 hG w Da hD => lc_feeds w (fun i H' => OwnN H1 H' Da ((List.range i).map v)) ⟨hD, ex_new hD, [], rfl, upd_same, fun t p d hp _ => by simp at hp⟩
    (fun i H' _ o => hG H' o.ex) (fun i H' H'' σ2 hin o e2 hB => ⟨hw i H'' σ2 hB, by
      have eH : Ex H H'' := ex_tr e1 (ex_tr o.ex e2)
      refine et_yes H'' ex_refl _ fun H3 e3 => ?_
      have o3 := o.up (ex_tr e2 e3)
      show te σ2 H3 fun y H4 => ∃ acc, H4 Da = some (.lst acc) ∧ acc.length < sizeLine ∧ OwnN H1 (upd H4 Da (.lst (acc ++ [y]))) Da ((List.range (i + 1)).map v)
      refine hs i H'' σ2 eH hin hB H3 e3 _ fun p xs H4 hp e4 h1 h2 => ?_
      have o4 := o3.up e4
      obtain ⟨ps, k1, k2, k3⟩ := o4.at_
      refine ⟨_, k2, Evl.sz_lt (by rw [List.length_map, k1, List.length_map, List.length_range]; omega), ?_⟩
      rw [List.range_succ, List.map_append]
      refine o4.app k2 (by rw [h1, dp_ints h2]) ?_ (ex_back o3.ex hp)
      rintro rfl
      obtain ⟨ps3, _, z, _⟩ := o3.at_
      rw [z] at hp
      cases hp⟩) (fun H' o => by
      obtain ⟨ps, k1, k2, k3⟩ := o.at_
      exact q _ H' ⟨Da, rfl, ex_back e1 o.new, ex_tr e1 o.ex, ps, k1, k2, fun t p d hp hd => ⟨(k3 t p d hp hd).1, (k3 t p d hp hd).2.1, ex_back e1 (k3 t p d hp hd).2.2⟩⟩)
end
section
variable {K : PySem.W.Frag} {σ : L2.St} {H : Hp} {ta tb : TE} {ds : List PyData} {k : Int}
theorem ef_rep (ha : EvF K ta σ H ds) (hb : EvD K tb σ H (.int k)) (h0 : 0 ≤ k) (h1 : k ≤ 1000) (hz : ds.length ≤ 100) : EvF K (tOp rMulA ta tb) σ H (List.replicate k.toNat ds).flatten := fun H1 e Q q =>
  ha H1 e _ fun l xs H2 hl e2 g2 g2' => hb H2 (ex_tr e e2) _ fun v H3 e3 hv => by
    obtain rfl := dp_int hv
    refine .inr ⟨l, k, xs, rfl, rfl, e3 l _ g2, by omega, by omega, ?_, fun p hp => ?_⟩
    · have a := g2'.len
      have b : xs.length * k.toNat ≤ 100 * 1000 := Nat.mul_le_mul (by omega) (by omega)
      exact Nat.le_trans b (by decide)
    · refine q p _ _ (ex_back (ex_tr e2 e3) hp) (ex_tr e2 (ex_tr e3 (ex_new hp))) upd_same ?_
      have key : ∀ {Hh : Hp} (n : Nat), DdAll K Hh xs ds → DdAll K Hh (List.replicate n xs).flatten (List.replicate n ds).flatten := fun {Hh} n g => by
        induction n with
        | zero => exact .nil
        | succ n ih =>
          rw [List.replicate_succ, List.replicate_succ, List.flatten_cons, List.flatten_cons]
          exact g.app ih
      exact key _ ((g2'.up e3).up (ex_new hp))
end
theorem rc_min {K : PySem.W.Frag} {i j : Int} : RC K (fun xs H Q => ∃ i j, xs = [.int i, .int j] ∧ Q (.int (if j < i then j else i)) H) [.int i, .int j] (.int (if j < i then j else i)) := fun vs H hv Q q => by
  cases hv with
  | cons h1 h2 => cases h2 with
    | cons h3 h4 => cases h1; cases h3; cases h4; exact ⟨i, j, rfl, q _ H ex_refl (.int _)⟩
theorem cut_map {α : Type} (f : α → PyData) (p : List α) (lo hi : Option Int) : ∃ a b, cutD (p.map f) lo hi = (((p.drop a).take b).map f) := ⟨_, _, by unfold cutD; rw [← List.map_drop, ← List.map_take]⟩
theorem five {σ : L2.St} (h : σ.length = 5) : ∃ a b c d e, σ = [a, b, c, d, e] := by
  match σ, h with
  | [a, b, c, d, e], _ => exact ⟨a, b, c, d, e, rfl⟩
theorem rx_lst {K : PySem.W.Frag} {H : Hp} {Q : VK} {t : Addr} {xs : List V} {n : Nat} {v : V} (h : H t = some (.lst xs)) (hv : xs[n]? = some v) (q : Q v H) : rIx K (.ref t) (.int (n : Int)) H Q := by
  refine .inl ⟨t, xs, n, v, rfl, rfl, SqL.of h, ?_, q⟩
  unfold atI
  rw [Evl.ixN_nat (List.getElem?_eq_some_iff.mp hv).1]
  exact hv
theorem eqv_pts_refl (S : List Pt) : PyData.eqv (.list (S.map ptD)) (.list (S.map ptD)) = true := by
  have h : PyData.eqvAll (S.map ptD) (S.map ptD) = true := by
    induction S with
    | nil => rfl
    | cons p S ih =>
      rw [List.map_cons, PyData.eqvAll, ih, eqv_pt]
      simp
  rw [PyData.eqv]
  exact h
theorem shaped_ask (w : Int) (S : List Pt) : SeqAt.shaped (.list [.int w, .list (S.map ptD)]) = true := by
  obtain ⟨c, d⟩ := pts_flat S
  have e : (PyData.list [.int w, .list (S.map ptD)]).depth ≤ 64 := by
    simp only [PyData.depth, PyData.depthAll]
    omega
  simp [SeqAt.shaped, PyData.canLay0, PyData.canLayAll0, c, e]
theorem eqv_ask (w : Int) (S : List Pt) : PyData.eqv (.list [.int w, .list (S.map ptD)]) (.list [.int w, .list (S.map ptD)]) = true := by
  rw [PyData.eqv, PyData.eqvAll, PyData.eqvAll, PyData.eqvAll, eqv_pts_refl, PyData.eqv]
  simp
theorem due_refl {p : Int} (h : p = 1 ∨ p = 3 ∨ p = 0) : SeqAt.shaped (.list (dueD p)) = true ∧ PyData.eqv (.list (dueD p)) (.list (dueD p)) = true := by
  rcases h with rfl | rfl | rfl <;> decide
end SF
namespace SF
open PySem PySem.Spec PyProof.Rows L2
def topS (i : Nat) : Stmt := PySem.Challenge.pw_stepfield_k01_fields_made.main.body.getD i (.Pass ⟨0, 0, 0, 0⟩)
section
variable {P : Program} {w : World} {K : PySem.W.Frag} {mg : Str → Option Value} {base : Heap}
abbrev s_Field___init__ : Stmt := inClass (topS 10) 0
theorem sc_Field___init__ : FnScope ["self", "width", "steps", "step"] ["self", "width", "steps"] (defScope s_Field___init__) := ⟨rfl, rfl, rfl, by decide +kernel, rfl, by decide +kernel, by decide +kernel⟩
theorem ok_Field___init__ {f C : Addr} {fd : FuncData} {tW tM : Tok} (F : Fun K "__init__" "Field.__init__" s_Field___init__ f fd) (T : Ctx P K mg base) (FC : FCls K C) (c_WIDEST : mg "WIDEST" = some (.int 4 tW)) (c_MOST_STEPS : mg "MOST_STEPS" = some (.int 6 tM)) : FnOk P w K mg base CX0 41 f fd ["self", "width", "steps"] (spInit C K) := by
  have sc := sc_Field___init__
  have B := T.bl
  refine F.ok sc (fun vs H Q E h => ?_) (fun cdv A outer s H vs Q E hr h => ?_)
  · obtain ⟨p, dx, x, W, S, ds, rfl, _⟩ := h
    rfl
  · obtain ⟨p, dx, x, W, S, ds, rfl, hp, hx, hh, hf, q⟩ := h
    refine ⟨_, (pss_cons (ps_if (pt_not (pt_chain op_le op_le pe_int (pv 1) (pe_glob (v := .int 4) (by rfl) c_WIDEST ⟨_, rfl⟩))) (pss_one ps_never) pss_nil)
      (pss_cons (ps_if (pt_cmpR op_gt (pe_callB (lenK K) (by rfl) B.len (by decide +kernel) (pa_cons (pv 2) pa_nil)) (pe_glob (v := .int 6) (by rfl) c_MOST_STEPS ⟨_, rfl⟩) (nomark _)) (pss_one ps_never) pss_nil)
      (pss_cons (ps_for PassesOwn.never rfl (piLT K (pv 2)) (pg_name (i := 3) sc.nd rfl (.inl rfl)) (pss_one (ps_if (pt_cmpR (neK K hr.units) (pe_callB (lenK K) (by rfl) B.len (by decide +kernel) (pa_cons (pv 3) pa_nil)) (pv 1) (nomark _)) (pss_one ps_never) pss_nil)))
      (pss_cons (ps_fld (pv 0) (pv 1) rfl)
      (pss_one (ps_fld (pv 0) (pe_lc (own := [("step", 3)]) rfl sc.nd (piLT K (pv 2)) (blkOk_by (own := [("step", 3)]) (N := ["self", "width", "steps", "step"]) (sc := defScope s_Field___init__) (by decide +kernel)) (fun _ _ _ _ _ => (pg_name (i := 3) sc.nd rfl (.inl rfl))) (fun _ _ _ _ _ => pts_nil) (fun _ _ _ _ _ => (pe_callTy (tupleK K) (by rfl) B.tuple (by decide +kernel) (pa_cons (pv 3) pa_nil)))) rfl)))))), ?_⟩
    have hlen : ds.length ≤ 6 := by rw [hh.1]; exact hf.n6
    have w1 := hf.w1
    have w4 := hf.w4
    refine s_seq (s_if (et_not (et_test K (ev_chain ev_cI (ev_varI rfl) (fun _ => ev_cI) rd_B0 fun _ => rd_B0))) (fun z => ?_) fun _ H1 e1 => s_next ?_)
    · exfalso
      simp at z
      omega
    refine s_seq (s_if (et_test K (ev_op (ev_cb (ea_cons (ev_var rfl (hx.up e1)) ea_nil) rc_lenL') ev_cI rd_B0)) (fun z => ?_) fun _ H2 e2 => s_next ?_)
    · exfalso
      simp at z
      omega
    have item : ∀ i d, ds[i]? = some d → (d = ptD (S.getD i []) ∨ d = plD (S.getD i [])) ∧ (S.getD i []).length = W := fun i d hd => by
      have hi := (List.getElem?_eq_some_iff.mp hd).1
      exact ⟨hh.2 i d hd, hf.len i (by rw [← hh.1]; exact hi)⟩
    refine s_seq (s_forV (eiv_list rfl hx) (ex_tr e1 e2) (fun i σ' H' => ∃ u, σ' = [some (.ref p), some (.int (W : Int)), some x, u] ∧ Ex H H') (fun H3 e3 => ⟨none, rfl, ex_tr e1 (ex_tr e2 e3)⟩) (fun i σ' H' _ ⟨_, _, e⟩ => e) ?_ ?_)
    · rintro i σ' σ'' H' H'' hi ⟨u, rfl, e⟩ e' ⟨y, d, hd, hy, rfl⟩
      obtain ⟨hk, hl⟩ := item i d hd
      have hlenE : EvD K (tCB (rLen K) (tCons (tVar 3) tNil)) [some (.ref p), some (.int (W : Int)), some x, some y] H'' (.int (W : Int)) := by
        rcases hk with rfl | rfl
        · exact (ev_cb (ea_cons (ev_var rfl hy) ea_nil) rc_lenT').to (by rw [List.length_map, hl])
        · exact (ev_cb (ea_cons (ev_var rfl hy) ea_nil) rc_lenL').to (by rw [List.length_map, hl])
      refine s_if (et_test K (ev_op hlenE (ev_varI rfl) (rd_ne rfl rfl))) (fun z => ?_) fun _ H3 e3 => s_next ⟨_, rfl, ex_tr e (ex_tr e' e3)⟩
      exfalso
      simp [PyData.eqv] at z
    · rintro σ' H3 ⟨u, rfl, e3⟩
      have hp3 := e3 p _ hp
      refine s_seq ?_
      refine ⟨_, rfl, _, rfl, p, C, dx, [], rfl, hp3, FC.cl, FC.nW, by show 0 < 1000; decide, ?_⟩
      have hx4 := dd_iex (iex_ins (o := .ins C dx (putF "width" (.int (W : Int)) [])) hp3) _ _ (hx.up e3)
      have hF : EvF K _ [some (.ref p), some (.int (W : Int)), some x, u] (upd H3 p (.ins C dx (putF "width" (.int (W : Int)) []))) (S.map ptD) :=
        EvF.to (ef_lc1 (fun i => ptD (S.getD i [])) (ei_list (ev_var (i := 2) rfl hx4)) (by omega) (hwB1 (j := 3) (vs := [3]) fun _ => rfl) (by
          rintro i H' σ' e hi ⟨y, d, hd, hy, rfl⟩
          obtain ⟨hk, hl⟩ := item i d hd
          refine ⟨?_, tupO_pt _⟩
          rcases hk with rfl | rfl
          · exact ev_cb (ea_cons (ev_var (i := 3) rfl hy) ea_nil) rc_tupleT
          · exact ev_cb (ea_cons (ev_var (i := 3) rfl hy) ea_nil) rc_tupleL)) (by
          refine range_map_eq hh.1 fun i hi => ?_
          rw [List.getD_eq_getElem?_getD, List.getElem?_eq_getElem hi]; rfl)
      refine s_fldF hF fun l ls H5 hl e5 g1 g2 => ?_
      have hp5 := e5 p _ upd_same
      have npl : l ≠ p := by rintro rfl; rw [hp5] at g1; cases g1
      refine ⟨_, rfl, p, C, dx, _, rfl, hp5, FC.cl, FC.nS, by show 1 < 1000; decide, ?_⟩
      have hlH : H l = none := by
        cases z : H l with
        | none => rfl
        | some o =>
          have h3 := e3 l o z
          have h4 : (upd H3 p (.ins C dx (putF "width" (.int (W : Int)) []))) l = some o := by rw [upd_ne npl]; exact h3
          rw [hl] at h4
          cases h4
      refine q _ l hlH ⟨dx, ls, upd_same, by rw [upd_ne npl]; exact g1, ddAll_iex (iex_ins hp5) _ _ g2⟩ fun b o hb hne => ?_
      rw [upd_ne hne]
      refine e5 b o ?_
      rw [upd_ne hne]
      exact e3 b o hb
theorem okx_Field___init__ {f C D1 D2 D4 : Addr} {fd : FuncData} {tW tM : Tok} (F : Fun K "__init__" "Field.__init__" s_Field___init__ f fd) (T : Ctx P K mg base) (E_BadStep : ErrC K mg "BadStep" D1) (E_BadWidth : ErrC K mg "BadWidth" D2) (E_TooMany : ErrC K mg "TooMany" D4) (c_WIDEST : mg "WIDEST" = some (.int 4 tW)) (c_MOST_STEPS : mg "MOST_STEPS" = some (.int 6 tM)) :
    FnOk P w K mg base (L2.CX P w) 41 f fd ["self", "width", "steps"] (spInitX C D1 D2 D4 K) := by
  have sc := sc_Field___init__
  have B := T.bl
  refine F.okX sc (fun vs H Q E h => ?_) (fun cdv A outer s H vs Q E hr h => ?_)
  · obtain ⟨p, dx, x, w, S, rfl, _⟩ := h
    rfl
  · obtain ⟨p, dx, x, w, S, rfl, hp, hx, hn, h⟩ := h
    refine ⟨_, (pss_cons (ps_if (pt_not (pt_chain op_le op_le pe_int (pv 1) (pe_glob (v := .int 4) (by rfl) c_WIDEST ⟨_, rfl⟩))) (pss_one (ps_raise rfl (takes_of rfl rfl rfl rfl) (pmk_own PySem.F.excBase_ValueError E_BadWidth.xX E_BadWidth.gX E_BadWidth.kX E_BadWidth.rs (by exact rfl)))) pss_nil)
      (pss_cons (ps_if (pt_cmpR op_gt (pe_callB (lenK K) (by rfl) B.len (by decide +kernel) (pa_cons (pv 2) pa_nil)) (pe_glob (v := .int 6) (by rfl) c_MOST_STEPS ⟨_, rfl⟩) (nomark _)) (pss_one (ps_raise rfl (takes_of rfl rfl rfl rfl) (pmk_own PySem.F.excBase_ValueError E_TooMany.xX E_TooMany.gX E_TooMany.kX E_TooMany.rs (by exact rfl)))) pss_nil)
      (pss_cons (ps_for (passes_of rfl) rfl (piLT K (pv 2)) (pg_name (i := 3) sc.nd rfl (.inl rfl)) (pss_one (ps_if (pt_cmpR (neK K hr.units) (pe_callB (lenK K) (by rfl) B.len (by decide +kernel) (pa_cons (pv 3) pa_nil)) (pv 1) (nomark _)) (pss_one (ps_raise rfl (takes_of rfl rfl rfl rfl) (pmk_own PySem.F.excBase_ValueError E_BadStep.xX E_BadStep.gX E_BadStep.kX E_BadStep.rs (by exact rfl)))) pss_nil)))
      pss_no))), ?_⟩
    have tw : EvB (tNot (tTest (tChain (rI0 fun i j => .bl (decide (i ≤ j))) (rI0 fun i j => .bl (decide (i ≤ j))) (tC (.int 1)) (tVar 1) (tC (.int 4))))) [some (.ref p), some (.int w), some x, none] H (!(decide (1 ≤ w) && decide (w ≤ 4))) := et_not (et_test K (ev_chain ev_cI (ev_varI rfl) (fun _ => ev_cI) rd_B0 fun _ => rd_B0))
    rcases h with ⟨hp1, q⟩ | ⟨hp3, q⟩ | ⟨hp0, q⟩
    · have := place_1 hp1
      refine s_seq (s_if (b := true) (EvB.to tw ?_) (fun _ H1 e1 => q H1 e1) (fun z => by cases z))
      simp
      omega
    · obtain ⟨hw, hl⟩ := place_3 hp3
      refine s_seq (s_if (b := false) (EvB.to tw (by simp; omega)) (fun z => by cases z) fun _ H1 e1 => s_next ?_)
      refine s_sq (s_if (b := true) (EvB.to (et_test K (ev_op (ev_cb (ea_cons (ev_var rfl (hx.up e1)) ea_nil) rc_lenL') ev_cI rd_B0)) ?_) (fun _ H2 e2 => q H2 (ex_tr e1 e2)) (fun z => by cases z))
      simp
      omega
    · obtain ⟨hw, hl, k, hk, hbad⟩ := place_0 hp0
      refine s_seq (s_if (b := false) (EvB.to tw (by simp; omega)) (fun z => by cases z) fun _ H1 e1 => s_next ?_)
      refine s_sq (s_if (b := false) (EvB.to (et_test K (ev_op (ev_cb (ea_cons (ev_var rfl (hx.up e1)) ea_nil) rc_lenL') ev_cI rd_B0)) (by simp; omega)) (fun z => by cases z) fun _ H2 e2 => s_next ?_)
      have e12 := ex_tr e1 e2
      refine s_sq (s_forV (eiv_list rfl hx) e12 (fun i σ' H' => i ≤ k ∧ ∃ u, σ' = [some (.ref p), some (.int w), some x, u] ∧ Ex H H') (fun H3 e3 => ⟨Nat.zero_le _, none, rfl, ex_tr e12 e3⟩) (fun i σ' H' _ h => by obtain ⟨_, _, _, h⟩ := h; exact h) ?_ ?_)
      · rintro i σ' σ'' H' H'' hi ⟨hik, u, rfl, e⟩ e' ⟨y, d, hd, hy, rfl⟩
        obtain ⟨pt, ep, rfl⟩ := map_got hd
        have eg : S.getD i [] = pt := by rw [List.getD_eq_getElem?_getD, ep]; rfl
        have hlenE : EvD K (tCB (rLen K) (tCons (tVar 3) tNil)) [some (.ref p), some (.int w), some x, some y] H'' (.int (pt.length : Nat)) := (ev_cb (ea_cons (ev_var rfl hy) ea_nil) rc_lenT').to (by rw [List.length_map])
        refine s_if (et_test K (ev_op hlenE (ev_varI rfl) (rd_ne rfl rfl))) (fun z H3 e3 => q H3 (ex_tr e (ex_tr e' e3))) fun z H3 e3 => s_next ⟨?_, _, rfl, ex_tr e (ex_tr e' e3)⟩
        rw [eqv_intD] at z
        simp at z
        have : i ≠ k := fun y => by
          subst y
          rw [eg] at hbad
          exact hbad z
        omega
      · rintro σ' H3 ⟨hik, u, rfl, e3⟩
        rw [List.length_map] at hik
        omega
abbrev s__law_cell_at : Stmt := topS 12
theorem sc__law_cell_at : FnScope ["script", "k"] ["script", "k"] (defScope s__law_cell_at) := ⟨rfl, rfl, rfl, by decide +kernel, rfl, by decide +kernel, by decide +kernel⟩
theorem ok__law_cell_at {f : Addr} {fd : FuncData} (F : Fun K "_law_cell_at" "_law_cell_at" s__law_cell_at f fd) (T : Ctx P K mg base) : FnOk P w K mg base CX0 41 f fd ["script", "k"] (spD K RCell) := by
  have sc := sc__law_cell_at
  have B := T.bl
  refine F.ok sc (fun vs H Q E h => ?_) (fun cdv A outer s H vs Q E hr h => ?_)
  · obtain ⟨ds, d, hv, ⟨ns, k, rfl, _⟩, _⟩ := h
    exact hv.len
  · obtain ⟨ds, d, hv, ⟨ns, k, rfl, rfl, hn⟩, q⟩ := h
    obtain ⟨x, y, rfl, hx, hy⟩ := dd2 hv
    obtain rfl := dp_int hy
    refine ⟨_, (pss_cons (ps_if (pt_cmpR op_lt (pv 1) (pe_callB (lenK K) (by rfl) B.len (by decide +kernel) (pa_cons (pv 0) pa_nil)) (nomark _)) (pss_one (ps_ret (pe_ix (ixK K) (pv 0) (pv 1) (fun _ _ => rfl)))) pss_nil)
      (pss_one (ps_ret pe_int))), ?_⟩
    refine q_when (et_test K (ev_op (ev_varI rfl) (EvD.to (ev_cb (ea_cons (ev_var rfl hx) ea_nil) rc_lenL') (by rw [List.length_map])) rd_B0)) (fun hc H1 e1 => ?_) fun hc H1 e1 => ?_
    · refine s_ret (ev_plAt (ev_var rfl (hx.up e1)) (ev_varI rfl) rfl (by simpa using hc)) fun v H2 e2 hv => ?_
      exact q v H2 (ex_tr e1 e2) hv
    · refine s_ret (K := K) (d := .int (vf ns k)) (EvD.to (ev_cI (n := 0)) ?_) fun v H2 e2 hv => q v H2 (ex_tr e1 e2) hv
      rw [vf_beyond (by simpa using hc)]
abbrev s__law_next : Stmt := topS 13
theorem sc__law_next : FnScope ["script", "spot"] ["script", "spot"] (defScope s__law_next) := ⟨rfl, rfl, rfl, by decide +kernel, rfl, by decide +kernel, by decide +kernel⟩
theorem ok__law_next {f : Addr} {fd : FuncData} (F : Fun K "_law_next" "_law_next" s__law_next f fd) (T : Ctx P K mg base) (C__law_cell_at : Cal P w K mg base 41 "_law_cell_at" ["script", "k"] (spD K RCell)) : FnOk P w K mg base CX0 42 f fd ["script", "spot"] (spNext K) := by
  have sc := sc__law_next
  have B := T.bl
  refine F.ok sc (fun vs H Q E h => ?_) (fun cdv A outer s H vs Q E hr h => ?_)
  · obtain ⟨x, sp, ns, p, rfl, _⟩ := h
    rfl
  · obtain ⟨x, sp, ns, p, rfl, hx, hn, hs, q⟩ := h
    refine ⟨_, (pss_cons (ps_asg (pe_op (addK K) (pe_ix (ixK K) (pv 1) pe_int (fun _ _ => rfl)) pe_int) (pg_sub (pv 1) pe_int set_list))
      (pss_one (ps_ret (pe_cal C__law_cell_at hr (by decide) (by rfl) (pa_cons (pv 0) (pa_cons (pe_op op_sub (pe_ix (ixK K) (pv 1) pe_int (fun _ _ => rfl)) pe_int) pa_nil)))))), ?_⟩
    have hd : DdAll K H [V.int (p : Int)] ([(p : Int)].map PyData.int) := DdAll.ints [(p : Int)]
    refine s_seq (s_set1 hs hd rfl rfl (ev_op (ev_plAt (p := [(p : Int)]) (n := 0) (EvV.dd (ev_v (i := 1) rfl) (.lst (SqL.of hs) hd)) ev_cI rfl (by simp)) ev_cI rd_addI) rfl ev_cI (n := 0) rfl (by simp) fun H1 ys e1 h1 h2 => ?_)
    have h2' : DdAll K H1 ys ([((p + 1 : Nat) : Int)].map PyData.int) := h2
    have ey := dp_ints h2'
    subst ey
    refine s_ret (ev_call (ea_cons (ev_var rfl (hx.up1 e1 hs).dd) (ea_cons (ev_op (ev_plAt (p := [((p + 1 : Nat) : Int)]) (n := 0) (EvV.dd (ev_v (i := 1) rfl) (.lst (SqL.of h1) h2')) ev_cI rfl (by simp)) ev_cI rd_I0) ea_nil)) (spD_go ⟨ns, p, by simp [vf], rfl, hn⟩)) fun v H2 e2 hv => ?_
    obtain rfl := dp_int hv
    exact q H2 (ex1_tr e1 (ex1_of e2)) (e2 sp _ h1)
abbrev s__law_number : Stmt := topS 14
theorem sc__law_number : FnScope ["cell", "great", "left"] ["cell", "great"] (defScope s__law_number) := ⟨rfl, rfl, rfl, by decide +kernel, rfl, by decide +kernel, by decide +kernel⟩
theorem ok__law_number {f : Addr} {fd : FuncData} (F : Fun K "_law_number" "_law_number" s__law_number f fd) (T : Ctx P K mg base) : FnOk P w K mg base CX0 41 f fd ["cell", "great"] (spNum K) := by
  have sc := sc__law_number
  have B := T.bl
  refine F.ok sc (fun vs H Q E h => ?_) (fun cdv A outer s H vs Q E hr h => ?_)
  · obtain ⟨c, g, rfl, _⟩ := h
    rfl
  · obtain ⟨c, g, rfl, q⟩ := h
    refine ⟨_, (pss_cons (ps_set (i := 2) sc.nd rfl (.inl rfl) (pe_op op_fdivN (pv 0) pe_int))
      (pss_cons (ps_if (pt_cmpR op_lt (pe_op op_modN (pv 0) pe_int) pe_int (nomark _)) (pss_one (ps_ret (pe_op op_sub (pe_op op_modN (pv 2) pe_int) pe_int))) pss_nil)
      (pss_cons (ps_if (pt_cmpR (eqK K hr.units) (pe_op op_modN (pv 0) pe_int) pe_int (nomark _)) (pss_one (ps_ret pe_int)) pss_nil)
      (pss_cons (ps_if (PW.pt (pw_and (pt_val (pv 1)) (pw_and1 (pt_cmpR (eqK K hr.units) (pe_op op_modN (pv 0) pe_int) pe_int (nomark _))))) (pss_one (ps_ret (pe_op op_sub (pe_op op_modN (pv 2) (pe_op (addK K) (pe_op opMul pe_int (pe_op op_pow pe_int pe_int)) pe_int)) (pe_op op_pow pe_int pe_int)))) pss_nil)
      (pss_one (ps_ret (pe_op op_sub (pe_op op_modN (pv 2) pe_int) pe_int))))))), ?_⟩
    have mo : ∀ {k : Int} {a : Int}, k ≠ 0 → RD K (rI (fun _ j => j ≠ 0) fun i j => .int (i.fmod j)) (.int a) (.int k) (.int (a.fmod k)) := fun h => rd_I h
    refine s_seq (s_asgI K (ev_op (ev_varI rfl) ev_cI (rd_I ⟨by decide, by decide⟩)) fun H1 e1 => s_seq ?_)
    refine s_if (et_test K (ev_op (ev_op (ev_varI rfl) ev_cI (mo (by decide))) ev_cI rd_B0)) (fun _ H2 e2 => ?_) fun _ H2 e2 => s_next (s_seq ?_)
    · refine s_ret (ev_op (ev_op (ev_varI rfl) ev_cI (mo (by decide))) ev_cI rd_I0) fun v H3 e3 hv => ?_
      obtain rfl := dp_int hv
      refine q _ H3 (ex_tr e1 (ex_tr e2 e3)) (.inl ?_)
      have := fmod_pos (a := c.fdiv 6) (b := 7) (by decide)
      omega
    refine s_if (et_test K (ev_op (ev_op (ev_varI rfl) ev_cI (mo (by decide))) ev_cI (rd_eq rfl rfl))) (fun _ H3 e3 => ?_) fun _ H3 e3 => s_next (s_seq ?_)
    · refine s_ret (K := K) ev_cI fun v H4 e4 hv => ?_
      obtain rfl := dp_int hv
      exact q _ H4 (ex_tr e1 (ex_tr e2 (ex_tr e3 e4))) (.inl (by decide))
    refine s_if (et_and (et_B K (ev_varB rfl)) fun _ => et_test K (ev_op (ev_op (ev_varI rfl) ev_cI (mo (by decide))) ev_cI (rd_eq rfl rfl))) (fun hc H4 e4 => ?_) fun _ H4 e4 => s_next ?_
    · refine s_ret (ev_op (ev_op (ev_varI rfl) (ev_op (ev_op ev_cI (ev_op ev_cI ev_cI (rd_I ⟨by decide, by decide, by decide⟩)) (rd_mulI (mulB_of (a := 3) (b := 60) (by decide) (by decide) (by decide)))) ev_cI rd_addI) (mo (by decide))) (ev_op ev_cI ev_cI (rd_I ⟨by decide, by decide, by decide⟩)) rd_I0) fun v H5 e5 hv => ?_
      obtain rfl := dp_int hv
      refine q _ H5 (ex_tr e1 (ex_tr e2 (ex_tr e3 (ex_tr e4 e5)))) (.inr ⟨by simp at hc; exact hc.1, ?_⟩)
      have := fmod_pos (a := c.fdiv 6) (b := 2 * 10 ^ (15 : Int).toNat + 1) (by decide)
      have e : (10 : Int) ^ (15 : Int).toNat = 1000000000000000 := by decide
      rw [e] at this ⊢
      omega
    · refine s_ret (ev_op (ev_op (ev_varI rfl) ev_cI (mo (by decide))) ev_cI rd_I0) fun v H5 e5 hv => ?_
      obtain rfl := dp_int hv
      refine q _ H5 (ex_tr e1 (ex_tr e2 (ex_tr e3 (ex_tr e4 e5)))) (.inl ?_)
      have := fmod_pos (a := c.fdiv 6) (b := 41) (by decide)
      omega
abbrev s__law_steps : Stmt := topS 15
theorem sc__law_steps : FnScope ["script", "spot", "width", "most", "great", "steps", "k", "cell", "one", "other", "j", "left"] ["script", "spot", "width", "most", "great"] (defScope s__law_steps) := ⟨rfl, rfl, rfl, by decide +kernel, rfl, by decide +kernel, by decide +kernel⟩
theorem ok__law_steps {f : Addr} {fd : FuncData} (F : Fun K "_law_steps" "_law_steps" s__law_steps f fd) (T : Ctx P K mg base) (C__law_next : Cal P w K mg base 42 "_law_next" ["script", "spot"] (spNext K)) (C__law_number : Cal P w K mg base 41 "_law_number" ["cell", "great"] (spNum K)) : FnOk P w K mg base CX0 43 f fd ["script", "spot", "width", "most", "great"] (spSteps K) := by
  have sc := sc__law_steps
  have B := T.bl
  refine F.ok sc (fun vs H Q E h => ?_) (fun cdv A outer s H vs Q E hr h => ?_)
  · obtain ⟨x, sp, ns, p, W, most, great, rfl, _⟩ := h
    rfl
  · obtain ⟨x, sp, ns, p, W, most, great, rfl, hx, hn, hs, hW, hm, q⟩ := h
    refine ⟨_, (pss_cons (ps_set (i := 5) sc.nd rfl (.inl rfl) (pe_lst pa_nil))
      (pss_cons (ps_for PassesOwn.never rfl (pi_range1 (by rfl) B.range (pa_cons (pe_op op_modN (pe_cal C__law_next hr (by decide) (by rfl) (pa_cons (pv 0) (pa_cons (pv 1) pa_nil))) (pe_op (addK K) (pv 3) pe_int)) pa_nil)) (pg_name (i := 6) sc.nd rfl (.inl rfl)) (pss_cons (ps_set (i := 7) sc.nd rfl (.inr rfl) (pe_cal C__law_next hr (by decide) (by rfl) (pa_cons (pv 0) (pa_cons (pv 1) pa_nil))))
      (pss_one (ps_if (PW.pt (pw_and (pt_cmpR op_gt (pv 6) pe_int (nomark _)) (pw_and (pt_cmpR (eqK K hr.units) (pe_op op_modN (pv 7) pe_int) pe_int (nomark _)) (pw_and1 (pt_not (pt_val (pv 4))))))) (pss_cons (ps_set (i := 8) sc.nd rfl (.inl rfl) (pe_ix (ixK K) (pv 5) (pe_op op_modN (pe_op op_fdivN (pv 7) pe_int) (pv 6)) (fun _ _ => rfl)))
      (pss_cons (ps_set (i := 9) sc.nd rfl (.inr rfl) (pe_ix (ixK K) (pv 5) (pe_op op_modN (pe_op op_fdivN (pv 7) pe_int) (pv 6)) (fun _ _ => rfl)))
      (pss_one (ps_expr (pe_bm PySem.F.plainAttrs_list PySem.F.slot_list_append PySem.F.type_list_append mt_append (pv 5) (pa_cons (pe_callTy (tupleK K) (by rfl) B.tuple (by decide +kernel) (pa_cons (pe_lc (own := [("j", 10), ("left", 11)]) rfl sc.nd (piEnum K (by rfl) B.enumerate (pa_cons (pv 8) pa_nil)) (blkOk_by (own := [("j", 10), ("left", 11)]) (N := ["script", "spot", "width", "most", "great", "steps", "k", "cell", "one", "other", "j", "left"]) (sc := defScope s__law_steps) (by decide +kernel)) (fun _ _ _ _ _ => (tupG K 2 rfl (pgs_cons (pg_name (i := 10) sc.nd rfl (.inl rfl)) (pgs_cons (pg_name (i := 11) sc.nd rfl (.inl rfl)) pgs_nil)))) (fun _ _ _ _ _ => pts_nil) (fun _ _ _ _ _ => (pe_op op_sub (pe_op opMul pe_int (pv 11)) (pe_ix (ixK K) (pv 9) (pv 10) (fun _ _ => rfl))))) pa_nil)) pa_nil)))))) (pss_one (ps_expr (pe_bm PySem.F.plainAttrs_list PySem.F.slot_list_append PySem.F.type_list_append mt_append (pv 5) (pa_cons (pe_callTy (tupleK K) (by rfl) B.tuple (by decide +kernel) (pa_cons (pe_lc (own := [("j", 10)]) rfl sc.nd (pi_range1 (by rfl) B.range (pa_cons (pv 2) pa_nil)) (blkOk_by (own := [("j", 10)]) (N := ["script", "spot", "width", "most", "great", "steps", "k", "cell", "one", "other", "j", "left"]) (sc := defScope s__law_steps) (by decide +kernel)) (fun _ _ _ _ _ => (pg_name (i := 10) sc.nd rfl (.inl rfl))) (fun _ _ _ _ _ => pts_nil) (fun _ _ _ _ _ => (pe_cal C__law_number hr (by decide) (by rfl) (pa_cons (pe_op (addK K) (pe_cal C__law_next hr (by decide) (by rfl) (pa_cons (pv 0) (pa_cons (pv 1) pa_nil))) (pe_op opMul pe_int (pv 7))) (pa_cons (pv 4) pa_nil))))) pa_nil)) pa_nil))))))))
      (pss_one (ps_ret (pv 5))))), ?_⟩
    have mo : ∀ {k : Int} {a : Int}, k ≠ 0 → RD K (rI (fun _ j => j ≠ 0) fun i j => .int (i.fmod j)) (.int a) (.int k) (.int (a.fmod k)) := fun h => rd_I h
    refine s_seq (s_asgF (K := K) (ds := []) (ef_lst ea_nil (by simp)) fun l xs0 H1 hl e1 h1 h2 => ?_)
    have nls : l ≠ sp := by rintro rfl; rw [hs] at hl; cases hl
    cases h2
    refine s_sq (s_forX (P := fun n H2 => (0 ≤ n ∧ n ≤ (most : Int)) ∧ Ex1 sp H H2 ∧ (∃ p' : Nat, H2 sp = some (.lst [.int (p' : Int)])) ∧ H2 l = some (.lst [])) (fun Q k => ?_) ?_)
    · refine er_next (hx.up e1) hn (e1 sp _ hs) rfl rfl _ ?_
      rintro v H2 ⟨rfl, e2, g2⟩
      refine (ev_op (K := K) (ta := tVar 3) (tb := tC (.int 1)) (r := rAddA K) (ev_varI rfl) ev_cI rd_addI) H2 ex_refl _ fun y H3 e3 hy => ?_
      obtain rfl := dp_int hy
      refine ⟨_, _, rfl, rfl, by omega, ?_⟩
      have hf := fmod_pos (a := vf ns p) (b := (most : Int) + 1) (by omega)
      refine k _ H3 ⟨⟨hf.1, by omega⟩, ex1_tr (ex1_of e1) (ex1_tr e2 (ex1_of e3)), ⟨_, e3 sp _ g2⟩, e3 l _ (e2 l _ h1 nls)⟩
    · rintro n H2 ⟨⟨n0, n1⟩, e2, g2, h2⟩
      refine ⟨by omega, fun i σ' H' => ∃ (kk cc oo ot : Option V) (xs : List V) (S : List Pt) (p' : Nat), σ' = [some x, some (.ref sp), some (.int (W : Int)), some (.int (most : Int)), some (.bl great), some (.ref l), kk, cc, oo, ot, none, none] ∧ Ex1 sp H H' ∧ H' sp = some (.lst [.int (p' : Int)]) ∧ H' l = some (.lst xs) ∧ DdAll K H' xs (S.map ptD) ∧ S.length = i ∧ (∀ k, k < S.length → (S.getD k []).length = W) ∧ ∀ k, k < S.length → Bd (if great then 50 else 5 + 2 * k) (S.getD k []), ?_, ?_, ?_⟩
      · obtain ⟨p', g2⟩ := g2
        exact ⟨none, none, none, none, [], [], p', rfl, e2, g2, h2, .nil, rfl, fun k hk => absurd hk (Nat.not_lt_zero _), fun k hk => absurd hk (Nat.not_lt_zero _)⟩
      · rintro i σ' H' hi ⟨kk, cc, oo, ot, xs, S, p', rfl, e', g', h', hd', hSl, hSw, hSb⟩
        have hx' := hx.up1 e' hs
        refine s_seq (s_asgR (er_next hx' hn g' rfl rfl) ?_)
        rintro v H3 ⟨rfl, e3, g3⟩
        have h3 := e3 l _ h' nls
        have hd3 : DdAll K H3 xs (S.map ptD) := hd'.tx (tex1 e3 g') (tupOAll_map tupO_pt S)
        have hx3 := hx'.up1 e3 g'
        have e03 : Ex1 sp H H3 := ex1_tr e' e3
        generalize vf ns p' = cell at *
        have grown : ∀ {pt : Pt} {H4 : Hp} {ys : List V}, pt.length = W → Bd (if great then 50 else 5 + 2 * i) pt → DdAll K H4 ys (S.map ptD ++ [ptD pt]) →
            DdAll K H4 ys ((S ++ [pt]).map ptD) ∧ (S ++ [pt]).length = i + 1 ∧ (∀ k, k < (S ++ [pt]).length → ((S ++ [pt]).getD k []).length = W) ∧ ∀ k, k < (S ++ [pt]).length → Bd (if great then 50 else 5 + 2 * k) ((S ++ [pt]).getD k []) := fun {pt H4 ys} hl hb hd => by
          have ap : ∀ k, (S ++ [pt]).getD k [] = if k < S.length then S.getD k [] else if k = S.length then pt else [] := fun k => by
            simp only [List.getD_eq_getElem?_getD]
            by_cases z : k < S.length
            · rw [if_pos z, List.getElem?_append_left z]
            · rw [if_neg z, List.getElem?_append_right (by omega)]
              by_cases z2 : k = S.length
              · rw [if_pos z2, z2]; simp
              · rw [if_neg z2, List.getElem?_eq_none (by simp; omega)]; rfl
          refine ⟨by rw [List.map_append]; exact hd, by simp [hSl], fun k hk => ?_, fun k hk => ?_⟩
          · rw [ap]
            simp at hk
            by_cases z : k < S.length
            · rw [if_pos z]; exact hSw k z
            · rw [if_neg z, if_pos (by omega)]; exact hl
          · rw [ap]
            simp at hk
            by_cases z : k < S.length
            · rw [if_pos z]; exact hSb k z
            · have hk2 : k = S.length := by omega
              rw [if_neg z, if_pos hk2, hk2, hSl]; exact hb
        have hlist : ∀ {H4 : Hp}, Ex H3 H4 → Dd K H4 (.ref l) (.list (S.map ptD)) := fun e => .lst (SqL.of (e l _ h3)) (hd3.up e)
        refine s_if (et_and (et_test K (ev_op (ev_varI rfl) ev_cI rd_B0)) fun _ => et_and (et_test K (ev_op (ev_op (ev_varI rfl) ev_cI (mo (by decide))) ev_cI (rd_eq rfl rfl))) fun _ => et_not (et_B K (ev_varB rfl))) (fun hc H4 e4 => ?_) (fun hc H4 e4 => ?_)
        · simp at hc
          have hi0 : 0 < i := by omega
          have hg : great = false := hc.2.2
          subst hg
          have ix : ∀ z : Int, ∃ m : Nat, z.fmod (i : Int) = (m : Int) ∧ m < S.length := fun z => by
            have := fmod_pos (a := z) (b := (i : Int)) (by omega)
            exact ⟨(z.fmod (i : Int)).toNat, by omega, by omega⟩
          obtain ⟨ia, ea, la⟩ := ix (cell.fdiv 4)
          obtain ⟨ib, eb, lb⟩ := ix (cell.fdiv 24)
          have gp : ∀ {m : Nat}, m < S.length → (S.map ptD)[m]? = some (ptD (S.getD m [])) := fun {m} hm => by
            rw [List.getD_eq_getElem?_getD, List.getElem?_map, List.getElem?_eq_getElem hm]; rfl
          refine s_seq (s_asgD (ev_op (ev_var rfl (hlist e4)) (ev_op (ev_op (ev_varI rfl) ev_cI (rd_I ⟨by decide, by decide⟩)) (ev_varI rfl) (mo (by omega))) (rd_ixL ea (gp la))) fun va H5 e5 hva => ?_)
          refine s_sq (s_asgD (ev_op (ev_var rfl (hlist (ex_tr e4 e5))) (ev_op (ev_op (ev_varI rfl) ev_cI (rd_I ⟨by decide, by decide⟩)) (ev_varI rfl) (mo (by omega))) (rd_ixL eb (gp lb))) fun vb H6 e6 hvb => ?_)
          have e36 := ex_tr e4 (ex_tr e5 e6)
          have lwa := hSw ia la
          have lwb := hSw ib lb
          have hpb : ∀ j, (3 * vf (S.getD ia []) j - vf (S.getD ib []) j).natAbs < 2 ^ (5 + 2 * i) := fun j => by
            have b1 := vf_bd (hSb ia la) j
            have b2 := vf_bd (hSb ib lb) j
            simp only [Bool.false_eq_true, if_false] at b1 b2
            have p1 : 2 ^ (5 + 2 * ia) ≤ 2 ^ (5 + 2 * (i - 1)) := Nat.pow_le_pow_right (by omega) (by omega)
            have p2 : 2 ^ (5 + 2 * ib) ≤ 2 ^ (5 + 2 * (i - 1)) := Nat.pow_le_pow_right (by omega) (by omega)
            have p3 : 2 ^ (5 + 2 * i) = 4 * 2 ^ (5 + 2 * (i - 1)) := by
              rw [show 5 + 2 * i = 5 + 2 * (i - 1) + 2 by omega, Nat.pow_add]; omega
            omega
          have hE : EvD K (tCB (rTupleOf K) (tCons (tLc (iEnumM K (tCons (tVar 8) tNil)) (gTwo K 10 11) tYes (tOp (rI0 fun i j => .int (i - j)) (tOp rMulA (tC (.int 3)) (tVar 11)) (tOp (rIx K) (tVar 9) (tVar 10))) [10, 11]) tNil))
              [some x, some (.ref sp), some (.int (W : Int)), some (.int (most : Int)), some (.bl false), some (.ref l), some (.int (i : Int)), some (.int cell), some va, some vb, none, none] H6 (ptD ((List.range W).map fun j => 3 * vf (S.getD ia []) j - vf (S.getD ib []) j)) :=
            ev_cb (ea_cons (EvF.dd (EvF.to (ef_lc1 (fun j => .int (3 * vf (S.getD ia []) j - vf (S.getD ib []) j)) (ei_enum (k := false) (ds := (S.getD ia []).map .int) (ea_cons (ev_var (i := 8) rfl (hva.up e6)) ea_nil)) (by rw [List.length_map]; omega) (hwBE (j1 := 10) (j2 := 11) (vs := [10, 11]) fun _ _ => rfl) (by
              rintro j H7 σ7 e7 hj ⟨u, d, hd, hu, rfl⟩
              obtain ⟨n, en, rfl⟩ := pt_at hd hu
              rw [List.length_map] at hj
              refine ⟨?_, rfl⟩
              rw [← vf_get en]
              exact ev_op (ev_op ev_cI (ev_varI (i := 11) rfl) (rd_mulI (mulB_l ⟨by decide, by decide⟩))) (ev_ptAt (ev_var (i := 9) rfl (hvb.up e7)) (ev_varI (i := 10) rfl) rfl (by omega)) rd_I0)) (by
              refine range_map_eq (by rw [List.length_map, lwa]; simp) fun j hj => ?_
              simp)) ) ea_nil) rc_tupleL
          refine s_app1 (e36 l _ h3) (hd3.up e36) (tupOAll_map tupO_pt S) rfl hE (tupO_pt _) (by rw [List.length_map]; omega) fun H7 ys e7 h7 hd7 => ?_
          obtain ⟨t1, t2, t3, t4⟩ := grown (pt := (List.range W).map fun j => 3 * vf (S.getD ia []) j - vf (S.getD ib []) j) (by simp) (fun z hz => by
            obtain ⟨j, _, rfl⟩ := List.mem_map.mp hz
            simp only [Bool.false_eq_true, if_false]
            exact hpb j) hd7
          exact ⟨_, _, _, _, ys, _, _, rfl, ex1_mut (ex1_tr e03 (ex1_of e36)) hl e7, e7 sp _ (e36 sp _ g3) nls.symm, h7, t1, t2, t3, t4⟩
        · -- steps.append(tuple([_law_number(..) for j in range(width)]))
          have hx4 := hx3.up e4
          have g4 := e4 sp _ g3
          have h4 := e4 l _ h3
          have hd4 := hd3.up e4
          have hlc := er_lcR (K := K) (σ := [some x, some (.ref sp), some (.int (W : Int)), some (.int (most : Int)), some (.bl great), some (.ref l), some (.int (i : Int)), some (.int cell), oo, ot, none, none]) (H := H4)
            (te := tCall (spNum K) [] E0 (tCons (tOp (rAddA K) (tCall (spNext K) [] E0 (tCons (tVar 0) (tCons (tVar 1) tNil))) (tOp rMulA (tC (.int 5)) (tVar 7))) (tCons (tVar 4) tNil))) (j := 10) (n := (W : Int)) (t := tCons (tVar 2) tNil)
            (ea_cons (ev_varI rfl) ea_nil) (by omega) (by omega) (fun _ => rfl)
            (fun Da j H' => H4 Da = none ∧ Ex1 sp H4 H' ∧ (∃ p' : Nat, H' sp = some (.lst [.int (p' : Int)])) ∧ ∃ zs : List Int, H' Da = some (.lst (zs.map V.int)) ∧ zs.length = j ∧ ∀ z ∈ zs, NumOk great z)
            (fun H5 Da e5 hDa => ⟨ex_back e5 hDa, ex1_of (ex_tr e5 (ex_new hDa)), ⟨_, (ex_new hDa) sp _ (e5 sp _ g4)⟩, [], upd_same, rfl, fun z hz => by cases hz⟩)
            (fun Da j H5 hj hP => by
              obtain ⟨q1, q2, ⟨p5, q3⟩, zs, q4, q5, q6⟩ := hP
              have nDs : Da ≠ sp := by rintro rfl; rw [g4] at q1; cases q1
              refine er_next (hx4.up1 q2 g4) hn q3 rfl rfl _ ?_
              rintro v H6 ⟨rfl, e6, g6⟩
              refine (ev_op (K := K) (ta := tC (.int 5)) (tb := tVar 7) (r := rMulA) ev_cI (ev_varI rfl) (rd_mulI (mulB_l ⟨by decide, by decide⟩))) H6 ex_refl _ fun y H7 e7 hy => ?_
              obtain rfl := dp_int hy
              refine .inl ⟨_, _, rfl, rfl, ?_⟩
              refine ⟨_, rfl, ?_⟩
              refine ⟨_, great, rfl, fun n H8 e8 hn8 => ?_⟩
              have e68 := ex_tr e7 e8
              refine ⟨zs.map V.int, e68 Da _ (e6 Da _ q4 nDs), Evl.sz_lt (by rw [List.length_map]; omega), q1, ?_, ⟨p5 + 1, ?_⟩, zs ++ [n], ?_, by simp [q5], ?_⟩
              · exact ex1_mut (ex1_tr q2 (ex1_tr e6 (ex1_of e68))) q1 ex1_upd
              · rw [upd_ne nDs.symm]
                exact e68 sp _ g6
              · rw [upd_same]; simp
              · intro z hz
                rcases List.mem_append.mp hz with hz | hz
                · exact q6 z hz
                · obtain rfl := List.mem_singleton.mp hz
                  exact hn8)
          refine ⟨_, rfl, Or.inl ⟨rfl, xs, SqL.of h4⟩, ?_⟩
          refine t_cons1 (t_cb (t_cons1 (hlc _ ?_)))
          rintro v H5 ⟨Da, rfl, q1, q2, ⟨p5, q3⟩, zs, q4, q5, q6⟩
          refine ⟨Da, zs.map V.int, rfl, .inl ⟨SqL.of q4, fun T o hT ho => ?_⟩⟩
          have h5 := q2 l _ h4 nls
          have hd5 : DdAll K H5 xs (S.map ptD) := hd4.tx (tex1 q2 g4) (tupOAll_map tupO_pt S)
          have eT := ex_new (o := .frz o (.tup (zs.map V.int))) hT
          refine ⟨l, xs, .ref T, rfl, rfl, eT l _ h5, Evl.sz_lt (by rw [hd5.len, List.length_map]; omega), ?_⟩
          have hpt : Dd K (upd H5 T (.frz o (.tup (zs.map V.int)))) (.ref T) (ptD zs) := .tup ⟨o, upd_same, ho⟩ (DdAll.ints zs)
          have hdA := ((hd5.up eT).app (.cons hpt .nil)).tx (tex_upd (ys := xs ++ [.ref T]) (eT l _ h5)) (tupOAll_app (tupOAll_map tupO_pt S) (by simp [tupOAll, tupO_pt]))
          have hzl : zs.length = W := by rw [q5]; omega
          obtain ⟨t1, t2, t3, t4⟩ := grown (pt := zs) hzl (fun z hz => by
            rcases q6 z hz with h | ⟨h, h'⟩
            · have : 2 ^ 5 ≤ 2 ^ (if great then 50 else 5 + 2 * i) := Nat.pow_le_pow_right (by omega) (by split <;> omega)
              omega
            · subst h
              simp only [if_true]
              have : (1000000000000000 : Nat) < 2 ^ 50 := by decide
              omega) hdA
          refine ⟨_, _, _, _, _, _, p5, rfl, ex1_mut (ex1_tr (ex1_tr e03 (ex1_of e4)) (ex1_tr q2 (ex1_of eT))) hl ex1_upd, ?_, upd_same, t1, t2, t3, t4⟩
          rw [upd_ne nls.symm]
          exact eT sp _ q3
      · rintro σ' H' ⟨kk, cc, oo, ot, xs, S, p', rfl, e', g', h', hd', hSl, hSw, hSb⟩
        exact s_retV (ev_v rfl) fun H3 e3 => q l xs S H3 p' hl (ex1_tr e' (ex1_of e3)) (e3 sp _ g') (e3 l _ h') (hd'.up e3) ⟨by omega, hSw, hSb⟩
abbrev s__law_which : Stmt := topS 16
theorem sc__law_which : FnScope ["e", "low"] ["e"] (defScope s__law_which) := ⟨rfl, rfl, rfl, by decide +kernel, rfl, by decide +kernel, by decide +kernel⟩
theorem okp__law_which {f C1 C2 C3 C4 C5 : Addr} {fd : FuncData} (F : Fun K "_law_which" "_law_which" s__law_which f fd) (T : Ctx P K mg base) (E_BadStep : ErrC K mg "BadStep" C1) (E_BadWidth : ErrC K mg "BadWidth" C2) (E_NoField : ErrC K mg "NoField" C3) (E_TooMany : ErrC K mg "TooMany" C4) (E_Unlike : ErrC K mg "Unlike" C5) (N_ValueError : mg "ValueError" = none) :
    FnP P w K mg base 41 f fd ["e"] (spWhich K C1 C2 C3 C4 C5) := by
  have sc := sc__law_which
  have B := T.bl
  refine Fun.okP F sc (fun a cls d vs H Q E h => ?_) (fun cdv A out s H vs Q p cls d hz hf h => ?_)
  · obtain ⟨D, b1, b2, b3, b4, b5, b6, rfl, _⟩ := h
    rfl
  · obtain ⟨D, b1, b2, b3, b4, b5, b6, rfl, rfl, rfl, EC, k1, k2, k3, k4, k5, k6, q⟩ := h
    have isr : ∀ {X : Cx}, p ∈ X.pn → X.K = K → CallR X (.builtin "isinstance") (rIsP K p.1 (.ref D) none) := fun h e => by
      subst e
      exact call_isP h hz hf
    refine ⟨_, (pss_cons (ps_set (i := 1) sc.nd rfl (.inl rfl) (pe_lst (pa_cons (pe_callB (isr (List.mem_singleton.mpr rfl) rfl) (by rfl) B.isinstance (by decide +kernel) (pa_cons (pv 0) (pa_cons (pe_glob (v := .ref _) (by rfl) E_BadStep.gX rfl) pa_nil))) (pa_cons (pe_callB (isr (List.mem_singleton.mpr rfl) rfl) (by rfl) B.isinstance (by decide +kernel) (pa_cons (pv 0) (pa_cons (pe_glob (v := .ref _) (by rfl) E_BadWidth.gX rfl) pa_nil))) (pa_cons (pe_callB (isr (List.mem_singleton.mpr rfl) rfl) (by rfl) B.isinstance (by decide +kernel) (pa_cons (pv 0) (pa_cons (pe_glob (v := .ref _) (by rfl) E_NoField.gX rfl) pa_nil))) (pa_cons (pe_callB (isr (List.mem_singleton.mpr rfl) rfl) (by rfl) B.isinstance (by decide +kernel) (pa_cons (pv 0) (pa_cons (pe_glob (v := .ref _) (by rfl) E_TooMany.gX rfl) pa_nil))) pa_nil))))))
      (pss_one (ps_ret (pe_op (addK K) (pv 1) (pe_lst (pa_cons (pe_callB (isr (List.mem_singleton.mpr rfl) rfl) (by rfl) B.isinstance (by decide +kernel) (pa_cons (pv 0) (pa_cons (pe_glob (v := .ref _) (by rfl) E_Unlike.gX rfl) pa_nil))) (pa_cons (pe_callB (isr (List.mem_singleton.mpr rfl) rfl) (by rfl) B.isinstance (by decide +kernel) (pa_cons (pv 0) (pa_cons (pe_bltn (v := .ty "ValueError") (by rfl) N_ValueError (by decide +kernel) rfl) pa_nil))) pa_nil))))))), ?_⟩
    have ask : ∀ {σ : L2.St} {H' : Hp} {C : Addr} {b : Bool}, σ[0]? = some (some (.ref p.1)) → PySem.W.kitOne K (.ref D) (.ref C) = some b → EvD K (tCB (rIsP K p.1 (.ref D) none) (tCons (tVar 0) (tCons (tC (.ref C)) tNil))) σ H' (.bool b) := fun z hk H1 e Q q =>
      ⟨_, z, D, _, _, _, rfl, rfl, EC, rfl, fun u hu => hu, hk, q _ H1 ex_refl (.bl _)⟩
    have askV : ∀ {σ : L2.St} {H' : Hp}, σ[0]? = some (some (.ref p.1)) → EvD K (tCB (rIsP K p.1 (.ref D) none) (tCons (tVar 0) (tCons (tC (.ty "ValueError")) tNil))) σ H' (.bool b6) := fun z H1 e Q q =>
      ⟨_, z, D, _, _, _, rfl, rfl, EC, rfl, fun u hu => hu, k6, q _ H1 ex_refl (.bl _)⟩
    refine s_seq (s_asgF (K := K) (ef_lst (ea_cons (ask rfl k1) (ea_cons (ask rfl k2) (ea_cons (ask rfl k3) (ea_cons (ask rfl k4) ea_nil)))) (by simp)) fun l xs H1 hl e1 g1 g1' => ?_)
    refine s_nx (s_retF (K := K) (ef_addL (el_var rfl g1 g1') (EvF.l (ef_lst (ea_cons (ask rfl k5) (ea_cons (askV rfl) ea_nil)) (by simp))) (by simp)) fun l2 ys H2 hl2 e2 g2 g2' => ?_)
    exact q l2 ys H2 (ex_back e1 hl2) (ex_tr e1 e2) g2 g2'
abbrev s__law_due : Stmt := topS 17
theorem sc__law_due : FnScope ["place", "k"] ["place"] (defScope s__law_due) := ⟨rfl, rfl, rfl, by decide +kernel, rfl, by decide +kernel, by decide +kernel⟩
theorem ok__law_due {f : Addr} {fd : FuncData} (F : Fun K "_law_due" "_law_due" s__law_due f fd) (T : Ctx P K mg base) : FnOk P w K mg base CX0 41 f fd ["place"] (spF K RDue) := by
  have sc := sc__law_due
  have B := T.bl
  refine F.ok sc (fun vs H Q E h => ?_) (fun cdv A outer s H vs Q E hr h => ?_)
  · obtain ⟨ds, es, hv, ⟨p, rfl, _⟩, _⟩ := h
    exact hv.len
  · obtain ⟨ds, es, hv, ⟨p, rfl, rfl⟩, q⟩ := h
    obtain ⟨x, rfl, hx⟩ := dd1 hv
    obtain rfl := dp_int hx
    refine ⟨_, (pss_one (ps_ret (pe_op (addK K) (pe_lc (own := [("k", 1)]) rfl sc.nd (pi_range1 (by rfl) B.range (pa_cons pe_int pa_nil)) (blkOk_by (own := [("k", 1)]) (N := ["place", "k"]) (sc := defScope s__law_due) (by decide +kernel)) (fun _ _ _ _ _ => (pg_name (i := 1) sc.nd rfl (.inl rfl))) (fun _ _ _ _ _ => pts_nil) (fun _ _ _ _ _ => (pe_cmpR (eqK K hr.units) (pv 1) (pv 0) (nomark _)))) (pe_lst (pa_cons pe_bl pa_nil))))), ?_⟩
    refine s_retF (K := K) (EvF.to (ef_addL (EvF.l (ef_lc1 (fun k => .bool (decide ((0 + ((k : Nat) : Int)) = p))) (ei_range1 K (ea_cons ev_cI ea_nil) (by omega) (by omega)) (by decide) (hwBR fun _ => rfl) ?_)) (EvF.l (ef_lst (ea_cons ev_cB ea_nil) (by simp))) (by simp)) ?_) q
    · intro k H5 σ5 e5 hk hb
      obtain rfl := hb
      exact ⟨EvD.to (ev_op (ev_varI rfl) (ev_varI rfl) (rd_eq rfl rfl)) (by rw [eqv_intD]), rfl⟩
    · rfl
abbrev s__law_asked : Stmt := topS 18
theorem sc__law_asked : FnScope ["width", "steps", "told", "field", "e"] ["width", "steps"] (defScope s__law_asked) := ⟨rfl, rfl, rfl, by decide +kernel, rfl, by decide +kernel, by decide +kernel⟩
theorem ok__law_asked {f C D1 D2 D3 D4 D5 D6 : Addr} {fd : FuncData} (F : Fun K "_law_asked" "_law_asked" s__law_asked f fd) (T : Ctx P K mg base) (FC : FCls K C) (E_FieldError : ErrC K mg "FieldError" D6) (S_BadStep_FieldError : PySem.W.subIn K (.ref D1) (.ref D6) = some true) (Y_BadStep : ExcC K D1) (I_BadStep_BadStep : PySem.W.kitOne K (.ref D1) (.ref D1) = some true) (I_BadStep_BadWidth : PySem.W.kitOne K (.ref D1) (.ref D2) = some false) (I_BadStep_NoField : PySem.W.kitOne K (.ref D1) (.ref D3) = some false) (I_BadStep_TooMany : PySem.W.kitOne K (.ref D1) (.ref D4) = some false) (I_BadStep_Unlike : PySem.W.kitOne K (.ref D1) (.ref D5) = some false) (I_BadStep_ValueError : PySem.W.kitOne K (.ref D1) (.type "ValueError") = some true) (S_BadWidth_FieldError : PySem.W.subIn K (.ref D2) (.ref D6) = some true) (Y_BadWidth : ExcC K D2) (I_BadWidth_BadStep : PySem.W.kitOne K (.ref D2) (.ref D1) = some false) (I_BadWidth_BadWidth : PySem.W.kitOne K (.ref D2) (.ref D2) = some true) (I_BadWidth_NoField : PySem.W.kitOne K (.ref D2) (.ref D3) = some false) (I_BadWidth_TooMany : PySem.W.kitOne K (.ref D2) (.ref D4) = some false) (I_BadWidth_Unlike : PySem.W.kitOne K (.ref D2) (.ref D5) = some false) (I_BadWidth_ValueError : PySem.W.kitOne K (.ref D2) (.type "ValueError") = some true) (S_TooMany_FieldError : PySem.W.subIn K (.ref D4) (.ref D6) = some true) (Y_TooMany : ExcC K D4) (I_TooMany_BadStep : PySem.W.kitOne K (.ref D4) (.ref D1) = some false) (I_TooMany_BadWidth : PySem.W.kitOne K (.ref D4) (.ref D2) = some false) (I_TooMany_NoField : PySem.W.kitOne K (.ref D4) (.ref D3) = some false) (I_TooMany_TooMany : PySem.W.kitOne K (.ref D4) (.ref D4) = some true) (I_TooMany_Unlike : PySem.W.kitOne K (.ref D4) (.ref D5) = some false) (I_TooMany_ValueError : PySem.W.kitOne K (.ref D4) (.type "ValueError") = some true)
    (M_Field : CalM P w K mg base 41 "Field" C ["self", "width", "steps"] (spInit C K)) (XM_Field : CalMX P w K mg base 41 "Field" C ["self", "width", "steps"] (spInitX C D1 D2 D4 K)) (C__law_which : CalP P w K mg base 41 "_law_which" ["e"] (spWhich K D1 D2 D3 D4 D5)) :
    FnOk P w K mg base CX0 43 f fd ["width", "steps"] (spAskF K) := by
  have sc := sc__law_asked
  have B := T.bl
  refine F.ok sc (fun vs H Q E h => ?_) (fun cdv A outer s H vs Q E hr h => ?_)
  · obtain ⟨wd, x, S, rfl, _⟩ := h
    rfl
  · obtain ⟨wd, x, S, rfl, hx, hn, q⟩ := h
    rcases place_all wd S with hp | hp | hp | hp
    · refine ⟨_, (pss_cons (ps_set (i := 2) sc.nd rfl (.inl rfl) (pe_lst pa_nil))
      (pss_cons (ps_try_as (i := 4) rfl rfl sc.nd rfl rfl ⟨rfl, by decide, .inl E_FieldError.gX⟩ takes0 (fun W pn xe tk _ => (pss_cons (ps_set (i := 3) sc.nd rfl (.inl rfl) (pe_mkX (n := 5) XM_Field hr (by decide) tk (by rfl) (pa_cons (pv 0) (pa_cons (pv 1) pa_nil))))
      (pss_one (ps_set (i := 2) sc.nd rfl (.inl rfl) (pe_lst (pa_cons (fldK K (pv 3)) (pa_cons (fldK K (pv 3)) pa_nil))))))) (fun a_ oe_ cls_ d_ _ hz hf => (pss_one (ps_set (i := 2) sc.nd rfl (.inl rfl) (pe_calP C__law_which (roomH_mark (L2H.roomH_of hr)) (by decide) List.mem_cons_self hz hf (by rfl) (pa_cons (pv 4) pa_nil))))))
      (pss_one (ps_ret (pv 2))))), ?_⟩
      refine s_seq (s_asgF (K := K) (ds := []) (ef_lst ea_nil (by simp)) fun l0 xs0 H1 hl0 e1 h1 h2 => ?_)
      refine s_sq ?_
      refine s_seq ?_
      refine ⟨_, rfl, _, rfl, fun a dx ha hdx hne => ?_⟩
      have e2 : Ex H1 (upd (upd H1 dx (.own a)) a (.ins C dx [])) := fun b o hb => by
        rw [upd_ne (ne_of_none hb ha), upd_ne (ne_of_none hb hdx)]
        exact hb
      refine ⟨a, dx, x, wd, S, rfl, upd_same, hx.up (ex_tr e1 e2), hn, .inl ⟨hp, fun H4 e4 σ hσ => ?_⟩⟩
      have e04 := ex_tr e1 (ex_tr e2 e4)
      obtain ⟨s0, s1, s2, s3, s4, rfl⟩ := five hσ
      refine ⟨true, E_FieldError.exm S_BadWidth_FieldError, fun _ x hx => ?_, fun z => nomatch z⟩
      refine ⟨_, rfl, _, false, true, false, false, false, true, rfl, rfl, rfl, Y_BadWidth, I_BadWidth_BadStep, I_BadWidth_BadWidth, I_BadWidth_NoField, I_BadWidth_TooMany, I_BadWidth_Unlike, I_BadWidth_ValueError, fun l xs H5 hl e5 h5 h5' => ?_⟩
      exact s_retV (ev_v rfl) fun H6 e6 => q l xs H6 (dueD 1) (ex_back e04 hl) (ex_tr e04 (ex_tr e5 e6)) (e6 l _ h5) (DdAll.up h5' e6) (by rw [hp]; rfl)
    · refine ⟨_, (pss_cons (ps_set (i := 2) sc.nd rfl (.inl rfl) (pe_lst pa_nil))
      (pss_cons (ps_try_as (i := 4) rfl rfl sc.nd rfl rfl ⟨rfl, by decide, .inl E_FieldError.gX⟩ takes0 (fun W pn xe tk _ => (pss_cons (ps_set (i := 3) sc.nd rfl (.inl rfl) (pe_mkX (n := 5) XM_Field hr (by decide) tk (by rfl) (pa_cons (pv 0) (pa_cons (pv 1) pa_nil))))
      (pss_one (ps_set (i := 2) sc.nd rfl (.inl rfl) (pe_lst (pa_cons (fldK K (pv 3)) (pa_cons (fldK K (pv 3)) pa_nil))))))) (fun a_ oe_ cls_ d_ _ hz hf => (pss_one (ps_set (i := 2) sc.nd rfl (.inl rfl) (pe_calP C__law_which (roomH_mark (L2H.roomH_of hr)) (by decide) List.mem_cons_self hz hf (by rfl) (pa_cons (pv 4) pa_nil))))))
      (pss_one (ps_ret (pv 2))))), ?_⟩
      refine s_seq (s_asgF (K := K) (ds := []) (ef_lst ea_nil (by simp)) fun l0 xs0 H1 hl0 e1 h1 h2 => ?_)
      refine s_sq ?_
      refine s_seq ?_
      refine ⟨_, rfl, _, rfl, fun a dx ha hdx hne => ?_⟩
      have e2 : Ex H1 (upd (upd H1 dx (.own a)) a (.ins C dx [])) := fun b o hb => by
        rw [upd_ne (ne_of_none hb ha), upd_ne (ne_of_none hb hdx)]
        exact hb
      refine ⟨a, dx, x, wd, S, rfl, upd_same, hx.up (ex_tr e1 e2), hn, .inr (.inl ⟨hp, fun H4 e4 σ hσ => ?_⟩)⟩
      have e04 := ex_tr e1 (ex_tr e2 e4)
      obtain ⟨s0, s1, s2, s3, s4, rfl⟩ := five hσ
      refine ⟨true, E_FieldError.exm S_TooMany_FieldError, fun _ x hx => ?_, fun z => nomatch z⟩
      refine ⟨_, rfl, _, false, false, false, true, false, true, rfl, rfl, rfl, Y_TooMany, I_TooMany_BadStep, I_TooMany_BadWidth, I_TooMany_NoField, I_TooMany_TooMany, I_TooMany_Unlike, I_TooMany_ValueError, fun l xs H5 hl e5 h5 h5' => ?_⟩
      exact s_retV (ev_v rfl) fun H6 e6 => q l xs H6 (dueD 3) (ex_back e04 hl) (ex_tr e04 (ex_tr e5 e6)) (e6 l _ h5) (DdAll.up h5' e6) (by rw [hp]; rfl)
    · refine ⟨_, (pss_cons (ps_set (i := 2) sc.nd rfl (.inl rfl) (pe_lst pa_nil))
      (pss_cons (ps_try_as (i := 4) rfl rfl sc.nd rfl rfl ⟨rfl, by decide, .inl E_FieldError.gX⟩ takes0 (fun W pn xe tk _ => (pss_cons (ps_set (i := 3) sc.nd rfl (.inl rfl) (pe_mkX (n := 5) XM_Field hr (by decide) tk (by rfl) (pa_cons (pv 0) (pa_cons (pv 1) pa_nil))))
      (pss_one (ps_set (i := 2) sc.nd rfl (.inl rfl) (pe_lst (pa_cons (fldK K (pv 3)) (pa_cons (fldK K (pv 3)) pa_nil))))))) (fun a_ oe_ cls_ d_ _ hz hf => (pss_one (ps_set (i := 2) sc.nd rfl (.inl rfl) (pe_calP C__law_which (roomH_mark (L2H.roomH_of hr)) (by decide) List.mem_cons_self hz hf (by rfl) (pa_cons (pv 4) pa_nil))))))
      (pss_one (ps_ret (pv 2))))), ?_⟩
      refine s_seq (s_asgF (K := K) (ds := []) (ef_lst ea_nil (by simp)) fun l0 xs0 H1 hl0 e1 h1 h2 => ?_)
      refine s_sq ?_
      refine s_seq ?_
      refine ⟨_, rfl, _, rfl, fun a dx ha hdx hne => ?_⟩
      have e2 : Ex H1 (upd (upd H1 dx (.own a)) a (.ins C dx [])) := fun b o hb => by
        rw [upd_ne (ne_of_none hb ha), upd_ne (ne_of_none hb hdx)]
        exact hb
      refine ⟨a, dx, x, wd, S, rfl, upd_same, hx.up (ex_tr e1 e2), hn, .inr (.inr ⟨hp, fun H4 e4 σ hσ => ?_⟩)⟩
      have e04 := ex_tr e1 (ex_tr e2 e4)
      obtain ⟨s0, s1, s2, s3, s4, rfl⟩ := five hσ
      refine ⟨true, E_FieldError.exm S_BadStep_FieldError, fun _ x hx => ?_, fun z => nomatch z⟩
      refine ⟨_, rfl, _, true, false, false, false, false, true, rfl, rfl, rfl, Y_BadStep, I_BadStep_BadStep, I_BadStep_BadWidth, I_BadStep_NoField, I_BadStep_TooMany, I_BadStep_Unlike, I_BadStep_ValueError, fun l xs H5 hl e5 h5 h5' => ?_⟩
      exact s_retV (ev_v rfl) fun H6 e6 => q l xs H6 (dueD 0) (ex_back e04 hl) (ex_tr e04 (ex_tr e5 e6)) (e6 l _ h5) (DdAll.up h5' e6) (by rw [hp]; rfl)
    · obtain ⟨W, rfl, fok⟩ := place_ok hp
      refine ⟨_, (pss_cons (ps_set (i := 2) sc.nd rfl (.inl rfl) (pe_lst pa_nil))
      (pss_cons (ps_try_as (i := 4) rfl rfl sc.nd rfl rfl ⟨rfl, by decide, .inl E_FieldError.gX⟩ takes0 (fun W pn xe tk _ => (pss_cons (ps_set (i := 3) sc.nd rfl (.inl rfl) (pe_mkF M_Field hr (by decide) (by rfl) (pa_cons (pv 0) (pa_cons (pv 1) pa_nil))))
      (pss_one (ps_set (i := 2) sc.nd rfl (.inl rfl) (pe_lst (pa_cons (fldK K (pv 3)) (pa_cons (fldK K (pv 3)) pa_nil))))))) (fun a_ oe_ cls_ d_ _ hz hf => (pss_one (ps_set (i := 2) sc.nd rfl (.inl rfl) (pe_calP C__law_which (roomH_mark (L2H.roomH_of hr)) (by decide) List.mem_cons_self hz hf (by rfl) (pa_cons (pv 4) pa_nil))))))
      (pss_one (ps_ret (pv 2))))), ?_⟩
      refine s_seq (s_asgF (K := K) (ds := []) (ef_lst ea_nil (by simp)) fun l0 xs0 H1 hl0 e1 h1 h2 => ?_)
      refine s_sq ?_
      refine s_seq (s_asgM (C := C) (W := W) (S := S) (ev_make (ds := S.map ptD) (ea_cons (ev_varI rfl) (ea_cons (ev_var rfl (hx.up e1)) ea_nil)) (handed_pts S) fok) fun o H2 ho e2 hF => ?_)
      refine s_asgF (K := K) (ef_lst (ea_cons (ev_width FC hF rfl) (ea_cons (el_steps FC hF rfl).dd ea_nil)) (by simp)) fun l xs H3 hl e3 h3 h3' => ?_
      have e12 := ex_tr e1 e2
      exact s_retV (ev_v rfl) fun H4 e4 => q l xs H4 _ (ex_back e12 hl) (ex_tr e12 (ex_tr e3 e4)) (e4 l _ h3) (DdAll.up h3' e4) (by rw [hp]; rfl)
abbrev s__law_spoilt : Stmt := topS 19
theorem sc__law_spoilt : FnScope ["script", "width", "steps", "fault", "cell", "at", "wrong"] ["script", "width", "steps"] (defScope s__law_spoilt) := ⟨rfl, rfl, rfl, by decide +kernel, rfl, by decide +kernel, by decide +kernel⟩
theorem ok__law_spoilt {f : Addr} {fd : FuncData} (F : Fun K "_law_spoilt" "_law_spoilt" s__law_spoilt f fd) (T : Ctx P K mg base) (C__law_cell_at : Cal P w K mg base 41 "_law_cell_at" ["script", "k"] (spD K RCell)) : FnOk P w K mg base CX0 43 f fd ["script", "width", "steps"] (spSpoilt K) := by
  have sc := sc__law_spoilt
  have B := T.bl
  refine F.ok sc (fun vs H Q E h => ?_) (fun cdv A outer s H vs Q E hr h => ?_)
  · obtain ⟨x, ns, wd, l, xs, S, rfl, _⟩ := h
    rfl
  · obtain ⟨x, ns, wd, l, xs, S, rfl, hx, hn, hl, hd, hS6, hS4, q⟩ := h
    refine ⟨_, (pss_cons (ps_set (i := 3) sc.nd rfl (.inl rfl) (pe_op op_modN (pe_cal C__law_cell_at hr (by decide) (by rfl) (pa_cons (pv 0) (pa_cons pe_int pa_nil))) pe_int))
      (pss_cons (ps_set (i := 4) sc.nd rfl (.inl rfl) (pe_cal C__law_cell_at hr (by decide) (by rfl) (pa_cons (pv 0) (pa_cons pe_int pa_nil))))
      (Evl.pss_cut (ps_if (PW.pt (pw_or (pt_cmpR (eqK K hr.units) (pv 3) pe_int (nomark _)) (pw_or1 (pt_cmpR (eqK K hr.units) (pv 3) pe_int (nomark _))))) (pss_one (ps_set (i := 1) sc.nd rfl (.inl rfl) (pe_ix (ixK K) (pe_lst (pa_cons pe_int (pa_cons pe_int (pa_cons (pe_op op_sub (pe_un un_neg pe_int) (pe_op op_modN (pe_op op_fdivN (pv 4) pe_int) pe_int)) (pa_cons (pe_op (addK K) pe_int (pe_op op_modN (pe_op op_fdivN (pv 4) pe_int) (pe_op op_pow pe_int pe_int))) pa_nil))))) (pe_op op_modN (pv 4) pe_int) (fun _ _ => rfl)))) pss_nil)
      (Evl.pss_cut (ps_if (PW.pt (pw_and (PW.pt (pw_or (pt_cmpR (eqK K hr.units) (pv 3) pe_int (nomark _)) (pw_or1 (pt_cmpR (eqK K hr.units) (pv 3) pe_int (nomark _))))) (pw_and1 (pt_cmpR op_gt (pe_callB (lenK K) (by rfl) B.len (by decide +kernel) (pa_cons (pv 2) pa_nil)) pe_int (nomark _))))) (pss_cons (ps_set (i := 5) sc.nd rfl (.inl rfl) (pe_op op_modN (pe_op op_fdivN (pv 4) pe_int) (pe_callB (lenK K) (by rfl) B.len (by decide +kernel) (pa_cons (pv 2) pa_nil))))
      (pss_cons (ps_set (i := 6) sc.nd rfl (.inl rfl) (pe_ix (ixK K) (pe_lst (pa_cons (pe_slice (slK K) (pe_ix (ixK K) (pv 2) (pv 5) (fun _ _ => rfl)) po_none (po_some (pe_un un_neg pe_int))) (pa_cons (pe_op (addK K) (pe_ix (ixK K) (pv 2) (pv 5) (fun _ _ => rfl)) (pe_tupZ (pa_cons pe_int pa_nil))) (pa_cons (pe_tupZ pa_nil) pa_nil)))) (pe_op op_modN (pv 4) pe_int) (fun _ _ => rfl)))
      (pss_one (ps_set (i := 2) sc.nd rfl (.inl rfl) (pe_op (addK K) (pe_op (addK K) (pe_slice (slK K) (pv 2) po_none (po_some (pv 5))) (pe_lst (pa_cons (pv 6) pa_nil))) (pe_slice (slK K) (pv 2) (po_some (pe_op (addK K) (pv 5) pe_int)) po_none)))))) pss_nil)
      (Evl.pss_cut (ps_if (pt_cmpR op_ge (pv 3) pe_int (nomark _)) (pss_one (ps_set (i := 2) sc.nd rfl (.inl rfl) (pe_op (addK K) (pv 2) (pe_op opMul (pe_lst (pa_cons (pe_ifExp (pt_truth (pv 2) (by intro _; rfl)) (pe_ix (ixK K) (pv 2) pe_int (fun _ _ => rfl)) (pe_tupZ (pa_cons pe_int (pa_cons pe_int pa_nil)))) pa_nil)) (pe_op op_sub (pe_op (addK K) pe_int (pe_op op_modN (pv 4) pe_int)) (pe_callB (call_min2 rfl) (by rfl) B.min (by decide +kernel) (pa_cons (pe_callB (lenK K) (by rfl) B.len (by decide +kernel) (pa_cons (pv 2) pa_nil)) (pa_cons pe_int pa_nil)))))))) pss_nil)
      (pss_one (ps_ret (pe_tupZ (pa_cons (pv 1) (pa_cons (pv 2) pa_nil)))))))))), ?_⟩
    have mo : ∀ {k : Int} {a : Int}, k ≠ 0 → RD K (rI (fun _ j => j ≠ 0) fun i j => .int (i.fmod j)) (.int a) (.int k) (.int (a.fmod k)) := fun h => rd_I h
    have dv : ∀ {k : Int} {a : Int}, CDivN a k → RD K (rI CDivN fun i j => .int (i.fdiv j)) (.int a) (.int k) (.int (a.fdiv k)) := fun h => rd_I h
    have hcell : ∀ (k : Nat) (σ : L2.St) (H' : Hp), Ex H H' → σ[0]? = some (some x) → EvD K (tCall (spD K RCell) [] E0 (tCons (tVar 0) (tCons (tC (.int (k : Int))) tNil))) σ H' (.int (vf ns k)) := fun k σ H' e h0 =>
      ev_call (ea_cons (ev_var h0 (hx.dd.up e)) (ea_cons ev_cI ea_nil)) (spD_go ⟨ns, k, rfl, rfl, by omega⟩)
    have small : ∀ {z m : Int}, 0 < m → ∃ i : Nat, z.fmod m = (i : Int) ∧ (i : Int) < m := fun {z m} h => by
      have := fmod_pos (a := z) (b := m) h
      exact ⟨(z.fmod m).toNat, by omega, by omega⟩
    refine s_seq (s_asgI K (n := (vf ns 1).fmod 6) (ev_op (hcell 1 _ _ ex_refl rfl) ev_cI (mo (by decide))) fun H1 e1 => ?_)
    refine s_sq (s_asgI K (n := vf ns 2) (hcell 2 _ _ e1 rfl) fun H2 e2 => ?_)
    generalize (vf ns 1).fmod 6 = fault
    generalize vf ns 2 = cell
    have e02 := ex_tr e1 e2
    refine ⟨fun σ3 H3 => ∃ w', σ3 = [some x, some (.int w'), some (.ref l), some (.int fault), some (.int cell), none, none] ∧ Ex H H3, ?_, ?_⟩
    · refine s_if (et_or (et_test K (ev_op (ev_varI rfl) ev_cI (rd_eq rfl rfl))) fun _ => et_test K (ev_op (ev_varI rfl) ev_cI (rd_eq rfl rfl))) (fun _ H3 e3 => ?_) (fun _ H3 e3 => s_next ⟨wd, rfl, ex_tr e02 e3⟩)
      obtain ⟨i, ei, hi⟩ := small (z := cell) (m := 4) (by decide)
      obtain ⟨w', ew⟩ : ∃ w', [PyData.int 0, .int 5, .int (-1 - (cell.fdiv 4).fmod 9), .int (5 + (cell.fdiv 4).fmod (10 ^ (12 : Int).toNat))][i]? = some (.int w') := by
        have : i < 4 := by omega
        rcases i with _ | _ | _ | _ | i
        · exact ⟨_, rfl⟩
        · exact ⟨_, rfl⟩
        · exact ⟨_, rfl⟩
        · exact ⟨_, rfl⟩
        · omega
      exact s_asgI K (n := w') (ev_op (EvF.dd (ef_lst (ea_cons ev_cI (ea_cons ev_cI (ea_cons (ev_op (ev_un ev_cI ru_neg) (ev_op (ev_op (ev_varI rfl) ev_cI (dv ⟨by decide, by decide⟩)) ev_cI (mo (by decide))) rd_I0) (ea_cons (ev_op ev_cI (ev_op (ev_op (ev_varI rfl) ev_cI (dv ⟨by decide, by decide⟩)) (ev_op ev_cI ev_cI (rd_I ⟨by decide, by decide, by decide⟩)) (mo (by decide))) rd_addI) ea_nil)))) (by simp))) (EvD.to (ev_op (ev_varI rfl) ev_cI (mo (by decide))) (by rw [ei])) (rd_ixL rfl ew)) fun H4 e4 => ⟨w', rfl, ex_tr e02 (ex_tr e3 e4)⟩
    rintro σ3 H3 ⟨w', rfl, e3⟩
    refine ⟨fun σ4 H4 => ∃ (l' : Addr) (xs' : List V) (S' : List Pt) (a5 a6 : Option V), σ4 = [some x, some (.int w'), some (.ref l'), some (.int fault), some (.int cell), a5, a6] ∧ Ex H H4 ∧ H4 l' = some (.lst xs') ∧ DdAll K H4 xs' (S'.map ptD) ∧ S'.length ≤ 13 ∧ ∀ p ∈ S', p.length ≤ 5, ?_, ?_⟩
    · have dS : ∀ {H' : Hp}, Ex H3 H' → Dd K H' (.ref l) (.list (S.map ptD)) := fun e => .lst (SqL.of ((ex_tr e3 e) l _ hl)) (hd.up (ex_tr e3 e))
      refine s_if (et_and (et_or (et_test K (ev_op (ev_varI rfl) ev_cI (rd_eq rfl rfl))) fun _ => et_test K (ev_op (ev_varI rfl) ev_cI (rd_eq rfl rfl))) fun _ => et_test K (ev_op (EvD.to (ev_cb (ea_cons (ev_var rfl (dS ex_refl)) ea_nil) rc_lenL') (by rw [List.length_map])) ev_cI rd_B0)) (fun hc H4 e4 => ?_) (fun _ H4 e4 => s_next ⟨l, xs, S, none, none, rfl, ex_tr e3 e4, (ex_tr e3 e4) l _ hl, hd.up (ex_tr e3 e4), by omega, fun p hp => by have := hS4 p hp; omega⟩)
      have hpos : 0 < S.length := by
        rw [Bool.and_eq_true] at hc
        have := hc.2
        simp at this
        omega
      obtain ⟨i, ei, hi⟩ := small (z := cell.fdiv 8) (m := (S.length : Int)) (by omega)
      refine s_seq (s_asgI K (n := (i : Int)) (EvD.to (ev_op (ev_op (ev_varI rfl) ev_cI (dv ⟨by decide, by decide⟩)) (EvD.to (ev_cb (ea_cons (ev_var rfl (dS e4)) ea_nil) rc_lenL') (by rw [List.length_map])) (mo (by omega))) (by rw [ei])) fun H5 e5 => ?_)
      have hiS : i < S.length := by omega
      have got : (S.map ptD)[i]? = some (ptD (S.getD i [])) := by
        rw [List.getD_eq_getElem?_getD, List.getElem?_map, List.getElem?_eq_getElem hiS]; rfl
      have pl : (S.getD i []).length ≤ 4 := by
        rw [List.getD_eq_getElem?_getD, List.getElem?_eq_getElem hiS]
        exact hS4 _ (List.getElem_mem hiS)
      generalize S.getD i [] = p at *
      obtain ⟨j, ej, hj⟩ := small (z := cell) (m := 3) (by decide)
      obtain ⟨ca, cb, ec⟩ := cut_map (PyData.int) p none (some (-1))
      obtain ⟨p', ep, pl'⟩ : ∃ p' : Pt, [ptD ((p.drop ca).take cb), ptD (p ++ [0]), ptD []][j]? = some (ptD p') ∧ p'.length ≤ 5 := by
        have : j < 3 := by omega
        rcases j with _ | _ | _ | j
        · exact ⟨_, rfl, by rw [List.length_take, List.length_drop]; omega⟩
        · exact ⟨_, rfl, by rw [List.length_append]; simp; omega⟩
        · exact ⟨_, rfl, Nat.zero_le _⟩
        · omega
      have at_ : ∀ {H' : Hp} {a6 : Option V}, Ex H5 H' → EvD K (tOp (rIx K) (tVar 2) (tVar 5)) [some x, some (.int w'), some (.ref l), some (.int fault), some (.int cell), some (.int (i : Int)), a6] H' (ptD p) := fun e => ev_op (ev_var rfl (dS (ex_tr e4 (ex_tr e5 e)))) (ev_varI rfl) (rd_ixL rfl got)
      refine s_sq (s_asgD (K := K) (d := ptD p') (ev_op (EvF.dd (ef_lst (ea_cons (EvD.to (ev_slT (at_ ex_refl) eo_none (eo_some K (ev_un ev_cI ru_neg))) (by rw [show (-1 : Int) = -1 from rfl, ec]; rfl)) (ea_cons (EvD.to (ev_op (at_ ex_refl) (ev_tup (ea_cons ev_cI ea_nil) (by simp)) (rd_addT (es := [PyData.int 0]) (by rw [List.length_map]; show _ + 1 ≤ _; omega))) (by unfold ptD; rw [List.map_append]; rfl)) (ea_cons (ev_tup ea_nil (by simp)) ea_nil))) (by simp))) (EvD.to (ev_op (ev_varI rfl) ev_cI (mo (by decide))) (by rw [ej])) (rd_ixL rfl ep)) fun vw H6 e6 dw => ?_)
      have e46 := ex_tr e4 (ex_tr e5 e6)
      obtain ⟨a1, b1, c1⟩ := cut_map ptD S none (some (i : Int))
      obtain ⟨a2, b2, c2⟩ := cut_map ptD S (some ((i : Int) + 1)) none
      refine s_nx (s_asgF (K := K) (ds := (((S.drop a1).take b1 ++ [p']) ++ (S.drop a2).take b2).map ptD) (EvF.to (ef_addL (EvF.l (ef_addL (EvF.l (ef_sl (ev_var rfl (dS e46)) eo_none (eo_some K (ev_varI rfl)))) (EvF.l (ef_lst (ea_cons (ev_var rfl dw) ea_nil) (by simp))) (by rw [c1]; simp; omega))) (EvF.l (ef_sl (ev_var rfl (dS e46)) (eo_some K (ev_op (ev_varI rfl) ev_cI rd_addI)) eo_none)) (by rw [c1, c2]; simp; omega)) (by rw [c1, c2, List.map_append, List.map_append]; rfl)) fun l' xs' H7 hl' e7 g7 g7' => ?_)
      refine ⟨l', xs', _, _, _, rfl, ex_tr e3 (ex_tr e46 e7), g7, g7', by simp; omega, fun r hr => ?_⟩
      rcases List.mem_append.mp hr with hr | hr
      · rcases List.mem_append.mp hr with hr | hr
        · have := hS4 r (List.mem_of_mem_drop (List.mem_of_mem_take hr)); omega
        · rw [List.mem_singleton.mp hr]; exact pl'
      · have := hS4 r (List.mem_of_mem_drop (List.mem_of_mem_take hr)); omega
    rintro σ4 H4 ⟨l4, xs4, S4, a5, a6, rfl, e4, h4, hd4, hn4, hp4⟩
    have dS : ∀ {H' : Hp}, Ex H4 H' → Dd K H' (.ref l4) (.list (S4.map ptD)) := fun e => .lst (SqL.of (e l4 _ h4)) (hd4.up e)
    refine ⟨fun σ5 H5 => ∃ (l' : Addr) (xs' : List V) (S' : List Pt), σ5 = [some x, some (.int w'), some (.ref l'), some (.int fault), some (.int cell), a5, a6] ∧ Ex H H5 ∧ H5 l' = some (.lst xs') ∧ DdAll K H5 xs' (S'.map ptD) ∧ S'.length ≤ 100 ∧ ∀ p ∈ S', p.length ≤ 100, ?_, ?_⟩
    · refine s_if (et_test K (ev_op (ev_varI rfl) ev_cI rd_B0)) (fun _ H5 e5 => ?_) (fun _ H5 e5 => s_next ⟨l4, xs4, S4, rfl, ex_tr e4 e5, e5 l4 _ h4, hd4.up e5, by omega, fun p hp => by have := hp4 p hp; omega⟩)
      obtain ⟨j, ej, hj⟩ := small (z := cell) (m := 2) (by decide)
      obtain ⟨p0, hp0, ep0⟩ : ∃ p0 : Pt, p0.length ≤ 5 ∧ EvD K (tIf (fun σ H Q => tVar 2 σ H fun x H' => ∃ k, TruV K x H' k ∧ Q k H') (tOp (rIx K) (tVar 2) (tC (.int 0))) (tTupZ (tCons (tC (.int 1)) (tCons (tC (.int 2)) tNil)))) [some x, some (.int w'), some (.ref l4), some (.int fault), some (.int cell), a5, a6] H5 (ptD p0) := by
        by_cases z : S4 = []
        · subst z
          exact ⟨[1, 2], by decide, ev_if (b := false) (EvB.to (et_truL (ev_var rfl (dS e5))) rfl) (fun z => by cases z) fun _ => ev_tup (ea_cons ev_cI (ea_cons ev_cI ea_nil)) (by simp)⟩
        · obtain ⟨p1, S1, rfl⟩ := List.exists_cons_of_ne_nil z
          exact ⟨p1, hp4 p1 (List.mem_cons_self ..), ev_if (b := true) (EvB.to (et_truL (ev_var rfl (dS e5))) rfl) (fun _ => ev_op (ev_var rfl (dS e5)) ev_cI (rd_ixL (n := 0) rfl rfl)) fun z => by cases z⟩
      generalize hm : (7 + (j : Int) - (if (6 : Int) < (S4.length : Nat) then 6 else ((S4.length : Nat) : Int))) = many
      have hmany : 0 ≤ many ∧ many ≤ 8 := by
        rw [← hm]
        split <;> omega
      refine s_asgF (K := K) (ds := (S4 ++ List.replicate many.toNat p0).map ptD) (EvF.to (ef_addL (el_var rfl (e5 l4 _ h4) (hd4.up e5)) (EvF.l (ef_rep (k := many) (ef_lst (ea_cons ep0 ea_nil) (by simp)) (EvD.to (ev_op (ev_op ev_cI (EvD.to (ev_op (ev_varI rfl) ev_cI (mo (by decide))) (by rw [ej])) rd_addI) (ev_cb (ea_cons (EvD.to (ev_cb (ea_cons (ev_var rfl (dS e5)) ea_nil) rc_lenL') (by rw [List.length_map])) (ea_cons ev_cI ea_nil)) rc_min) rd_I0) (by rw [← hm])) hmany.1 (by omega) (by simp))) (by simp; omega)) ?_) fun l' xs' H6 hl' e6 g6 g6' => ?_
      · rw [List.map_append, List.map_replicate]
        congr 1
        generalize many.toNat = n
        induction n with
        | zero => rfl
        | succ n ih => rw [List.replicate_succ, List.flatten_cons, ih, List.replicate_succ]; rfl
      · refine ⟨l', xs', _, rfl, ex_tr e4 (ex_tr e5 e6), g6, g6', by simp; omega, fun r hr => ?_⟩
        rcases List.mem_append.mp hr with hr | hr
        · have := hp4 r hr; omega
        · rw [(List.mem_replicate.mp hr).2]; omega
    rintro σ5 H5 ⟨l5, xs5, S5, rfl, e5, h5, hd5, hn5, hp5⟩
    refine ⟨_, rfl, _, rfl, Evl.sz_of (by simp), fun t o ht ho => ?_⟩
    have en := ex_new (o := .frz o (.tup [.int w', .ref l5])) ht
    exact q t l5 xs5 w' S5 _ (ex_tr e5 en) ⟨o, upd_same, ho⟩ (en l5 _ h5) (hd5.up en) hn5 hp5
abbrev s_law : Stmt := topS 20
theorem sc_law : FnScope ["script", "spot", "width", "steps", "place", "handed", "field", "whole", "step", "j"] ["script"] (defScope s_law) := ⟨rfl, rfl, rfl, by decide +kernel, rfl, by decide +kernel, by decide +kernel⟩
theorem ok_law {f C : Addr} {fd : FuncData} (F : Fun K "law" "law" s_law f fd) (T : Ctx P K mg base) (FC : FCls K C) (C__law_cell_at : Cal P w K mg base 41 "_law_cell_at" ["script", "k"] (spD K RCell)) (C__law_steps : Cal P w K mg base 43 "_law_steps" ["script", "spot", "width", "most", "great"] (spSteps K))
    (M_Field : CalM P w K mg base 41 "Field" C ["self", "width", "steps"] (spInit C K)) (C__law_spoilt : Cal P w K mg base 43 "_law_spoilt" ["script", "width", "steps"] (spSpoilt K)) (C__law_asked : Cal P w K mg base 43 "_law_asked" ["width", "steps"] (spAskF K)) (C__law_due : Cal P w K mg base 41 "_law_due" ["place"] (spF K RDue)) :
    FnOk P w K mg base CX0 44 f fd ["script"] (spLaw K) := by
  have sc := sc_law
  have B := T.bl
  refine F.ok sc (fun vs H Q E h => ?_) (fun cdv A outer s H vs Q E hr h => ?_)
  · obtain ⟨a, ns, rfl, _⟩ := h
    rfl
  · obtain ⟨a, ns, rfl, hx, hn, q⟩ := h
    refine ⟨_, (pss_cons (ps_set (i := 1) sc.nd rfl (.inl rfl) (pe_lst (pa_cons pe_int pa_nil)))
      (pss_cons (ps_set (i := 2) sc.nd rfl (.inr rfl) (pe_op (addK K) pe_int (pe_op op_modN (pe_cal C__law_cell_at hr (by decide) (by rfl) (pa_cons (pv 0) (pa_cons pe_int pa_nil))) pe_int)))
      (pss_cons (ps_set (i := 3) sc.nd rfl (.inl rfl) (pe_cal C__law_steps hr (by decide) (by rfl) (pa_cons (pv 0) (pa_cons (pv 1) (pa_cons (pv 2) (pa_cons pe_int (pa_cons pe_bl pa_nil)))))))
      (Evl.pss_cut (ps_if (pt_cmpR (eqK K hr.units) (pe_op op_modN (pe_op op_fdivN (pe_cal C__law_cell_at hr (by decide) (by rfl) (pa_cons (pv 0) (pa_cons pe_int pa_nil))) pe_int) pe_int) pe_int (nomark _)) (pss_one (ps_asg (pe_cal C__law_spoilt hr (by decide) (by rfl) (pa_cons (pv 0) (pa_cons (pv 2) (pa_cons (pv 3) pa_nil)))) (tupG K 2 rfl (pgs_cons (pg_name (i := 2) sc.nd rfl (.inr rfl)) (pgs_cons (pg_name (i := 3) sc.nd rfl (.inl rfl)) pgs_nil))))) pss_nil)
      (pss_cons (ps_set (i := 4) sc.nd rfl (.inl rfl) (pe_un un_neg pe_int))
      (Evl.pss_cut (ps_if (pt_not (pt_val (pe_callB (allK K rfl) (by rfl) B.all (by decide +kernel) (pa_cons (pe_lc (own := [("step", 8)]) rfl sc.nd (piLT K (pv 3)) (blkOk_by (own := [("step", 8)]) (N := ["script", "spot", "width", "steps", "place", "handed", "field", "whole", "step", "j"]) (sc := defScope s_law) (by decide +kernel)) (fun _ _ _ _ _ => (pg_name (i := 8) sc.nd rfl (.inl rfl))) (fun _ _ _ _ _ => pts_nil) (fun _ _ _ _ _ => (pe_cmpR (eqK K hr.units) (pe_callB (lenK K) (by rfl) B.len (by decide +kernel) (pa_cons (pv 8) pa_nil)) (pv 2) (nomark _)))) pa_nil)))) (pss_one (ps_set (i := 4) sc.nd rfl (.inl rfl) pe_int)) pss_nil)
      (Evl.pss_cut (ps_if (pt_cmpR op_gt (pe_callB (lenK K) (by rfl) B.len (by decide +kernel) (pa_cons (pv 3) pa_nil)) pe_int (nomark _)) (pss_one (ps_set (i := 4) sc.nd rfl (.inl rfl) pe_int)) pss_nil)
      (Evl.pss_cut (ps_if (pt_not (pt_chain op_le op_le pe_int (pv 2) pe_int)) (pss_one (ps_set (i := 4) sc.nd rfl (.inl rfl) pe_int)) pss_nil)
      (pss_cons (ps_if (pt_cmpR op_ge (pv 4) pe_int (nomark _)) (pss_one (ps_ret (pe_and (pe_cmpR (eqK K hr.units) (pe_cal C__law_asked hr (by decide) (by rfl) (pa_cons (pv 2) (pa_cons (pv 3) pa_nil))) (pe_cal C__law_due hr (by decide) (by rfl) (pa_cons (pv 4) pa_nil)) (nomark _)) (pe_one (pe_cmpR (eqK K hr.units) (pe_cal C__law_asked hr (by decide) (by rfl) (pa_cons (pv 2) (pa_cons (pe_callTy (listK K) (by rfl) B.list (by decide +kernel) (pa_cons (pv 3) pa_nil)) pa_nil))) (pe_cal C__law_due hr (by decide) (by rfl) (pa_cons (pv 4) pa_nil)) (nomark _)))))) pss_nil)
      (pss_cons (ps_setLc (i := 5) (own := [("step", 8)]) rfl sc.nd rfl rfl (sw_true rfl rfl rfl (by decide +kernel)) (piLT K (pv 3)) (blkOk_by (own := [("step", 8)]) (N := ["script", "spot", "width", "steps", "place", "handed", "field", "whole", "step", "j"]) (sc := defScope s_law) (by decide +kernel)) (fun _ _ _ _ _ => (pg_name (i := 8) sc.nd rfl (.inl rfl))) (fun _ _ _ _ _ => pts_nil) (fun _ _ _ _ _ => (pe_callTy (listK K) (by rfl) B.list (by decide +kernel) (pa_cons (pv 8) pa_nil))))
      (pss_cons (ps_set (i := 6) sc.nd rfl (.inl rfl) (pe_mkF M_Field hr (by decide) (by rfl) (pa_cons (pv 2) (pa_cons (pv 5) pa_nil))))
      (pss_cons (ps_expr (pe_bm PySem.F.plainAttrs_list PySem.F.slot_list_append PySem.F.type_list_append mt_append (pv 5) (pa_cons (pe_lc (own := [("j", 9)]) rfl sc.nd (pi_range1 (by rfl) B.range (pa_cons (pv 2) pa_nil)) (blkOk_by (own := [("j", 9)]) (N := ["script", "spot", "width", "steps", "place", "handed", "field", "whole", "step", "j"]) (sc := defScope s_law) (by decide +kernel)) (fun _ _ _ _ _ => (pg_name (i := 9) sc.nd rfl (.inl rfl))) (fun _ _ _ _ _ => pts_nil) (fun _ _ _ _ _ => pe_int)) pa_nil)))
      (Evl.pss_cut (ps_if (pt_cmpR op_gt (pe_callB (lenK K) (by rfl) B.len (by decide +kernel) (pa_cons (pv 3) pa_nil)) pe_int (nomark _)) (pss_one (ps_expr (pe_bm0 PySem.F.plainAttrs_list PySem.F.slot_list_clear PySem.F.type_list_clear mt_clear (pe_ix (ixK K) (pv 5) pe_int (fun _ _ => rfl))))) pss_nil)
      (pss_cons (ps_if (PW.pt (pw_or (pt_not (pt_val (pe_callB (isiK K) (by rfl) B.isinstance (by decide +kernel) (pa_cons (fldK K (pv 6)) (pa_cons (pe_bltn (v := .ty "list") (by rfl) B.list (by decide +kernel) rfl) pa_nil))))) (pw_or1 (pt_not (pt_val (pe_callB (allK K rfl) (by rfl) B.all (by decide +kernel) (pa_cons (pe_lc (own := [("step", 8)]) rfl sc.nd (piLT K (fldK K (pv 6))) (blkOk_by (own := [("step", 8)]) (N := ["script", "spot", "width", "steps", "place", "handed", "field", "whole", "step", "j"]) (sc := defScope s_law) (by decide +kernel)) (fun _ _ _ _ _ => (pg_name (i := 8) sc.nd rfl (.inl rfl))) (fun _ _ _ _ _ => pts_nil) (fun _ _ _ _ _ => (pe_callB (isiK K) (by rfl) B.isinstance (by decide +kernel) (pa_cons (pv 8) (pa_cons (pe_bltn (v := .ty "tuple") (by rfl) B.tuple (by decide +kernel) rfl) pa_nil))))) pa_nil))))))) (pss_one (ps_ret pe_bl)) pss_nil)
      (pss_cons (ps_set (i := 7) sc.nd rfl (.inl rfl) (pe_and (pe_callB (isiK K) (by rfl) B.isinstance (by decide +kernel) (pa_cons (fldK K (pv 6)) (pa_cons (pe_bltn (v := .ty "int") (by rfl) B.int_ (by decide +kernel) rfl) pa_nil))) (pe_one (pe_not (pe_callB (isiK K) (by rfl) B.isinstance (by decide +kernel) (pa_cons (fldK K (pv 6)) (pa_cons (pe_bltn (v := .ty "bool") (by rfl) B.bool (by decide +kernel) rfl) pa_nil)))))))
      (pss_one (ps_ret (pe_and (pv 7) (pe_and (pe_cmpR (eqK K hr.units) (fldK K (pv 6)) (pv 2) (nomark _)) (pe_and (pe_cmpR (eqK K hr.units) (fldK K (pv 6)) (pv 3) (nomark _)) (pe_one (pe_cmpR (eqK K hr.units) (pe_cal C__law_asked hr (by decide) (by rfl) (pa_cons (pv 2) (pa_cons (pv 3) pa_nil))) (pe_lst (pa_cons (pv 2) (pa_cons (pv 3) pa_nil))) (nomark _))))))))))))))))))))))), ?_⟩
    have mo : ∀ {k : Int} {a : Int}, k ≠ 0 → RD K (rI (fun _ j => j ≠ 0) fun i j => .int (i.fmod j)) (.int a) (.int k) (.int (a.fmod k)) := fun h => rd_I h
    have dv : ∀ {k : Int} {a : Int}, CDivN a k → RD K (rI CDivN fun i j => .int (i.fdiv j)) (.int a) (.int k) (.int (a.fdiv k)) := fun h => rd_I h
    have hcell : ∀ (k : Nat) (σ : L2.St) (H' : Hp), Ex H H' → σ[0]? = some (some (.ref a)) → EvD K (tCall (spD K RCell) [] E0 (tCons (tVar 0) (tCons (tC (.int (k : Int))) tNil))) σ H' (.int (vf ns k)) := fun k σ H' e h0 =>
      ev_call (ea_cons (ev_var h0 (hx.dd.up e)) (ea_cons ev_cI ea_nil)) (spD_go ⟨ns, k, rfl, rfl, by omega⟩)
    refine s_seq (s_asgF (K := K) (ds := [3].map .int) (ef_lst (ea_cons ev_cI ea_nil) (by simp)) fun sp sps H0 hsp e0 hs0 hsd => ?_)
    have hsp0 : H0 sp = some (.lst [.int ((3 : Nat) : Int)]) := by rw [hs0, dp_ints hsd]; rfl
    clear hs0 hsd
    generalize hW : (1 + (vf ns 0).fmod 4).toNat = W
    have hf := fmod_pos (a := vf ns 0) (b := (4 : Int)) (by omega)
    have eW : 1 + (vf ns 0).fmod 4 = (W : Int) := by omega
    have hW1 : 1 ≤ W := by omega
    have hW4 : W ≤ 4 := by omega
    refine s_sq (s_asgI K (n := (W : Int)) (EvD.to (ev_op ev_cI (ev_op (hcell 0 _ _ e0 rfl) ev_cI (mo (by decide))) rd_addI) (by rw [eW])) fun H1 e1 => ?_)
    have e01 := ex_tr e0 e1
    refine s_sq (s_asgR (er_stepsV (most := 6) (hx.up e01) (by omega) rfl rfl (e1 sp _ hsp0) (ea_cons (ev_varI rfl) (ea_cons ev_cI (ea_cons ev_cB ea_nil))) (by omega) (by decide)) ?_)
    rintro v H2 ⟨l, xs, S0, p2, rfl, e2, g2, hl, h2, hd, hS⟩
    have ex2 : Ex H H2 := ex_mut1 e01 hsp e2
    have Sn := hS.n
    have Sl : ∀ p ∈ S0, p.length ≤ 4 := fun p hp => by
      obtain ⟨i, hi, rfl⟩ := List.mem_iff_getElem.mp hp
      have := hS.len i hi
      rw [List.getD_eq_getElem?_getD, List.getElem?_eq_getElem hi] at this
      have e : S0[i].length = W := this
      omega
    refine ⟨fun σ3 H3 => ∃ (w' : Int) (ls : Addr) (xsS : List V) (S : List Pt), σ3 = [some (.ref a), some (.ref sp), some (.int w'), some (.ref ls), none, none, none, none, none, none] ∧ Ex H2 H3 ∧ H3 ls = some (.lst xsS) ∧ DdAll K H3 xsS (S.map ptD) ∧ S.length ≤ 100 ∧ ∀ p ∈ S, p.length ≤ 100, ?_, ?_⟩
    · refine s_if (et_test K (ev_op (ev_op (ev_op (hcell 0 _ _ ex2 rfl) ev_cI (dv ⟨by decide, by decide⟩)) ev_cI (mo (by decide))) ev_cI (rd_eq rfl rfl))) (fun _ H3 e3 => ?_) (fun _ H3 e3 => s_next ⟨W, l, xs, S0, rfl, e3, e3 l _ h2, hd.up e3, by omega, fun p hp => by have := Sl p hp; omega⟩)
      refine ⟨_, rfl, _, rfl, _, rfl, .ref a, ns, (W : Int), l, xs, S0, rfl, hx.up (ex_tr ex2 e3), by omega, e3 l _ h2, hd.up e3, by omega, Sl, fun t l' xs' w' S' H4 e4 zt h4 hd4 hn4 hp4 => ?_⟩
      exact ⟨t, _, rfl, zt.sq, rfl, _, _, rfl, _, _, rfl, rfl, w', l', xs', S', rfl, ex_tr e3 e4, h4, hd4, hn4, hp4⟩
    rintro σ3 H3 ⟨wd, ls, xsS, S, rfl, e3, h3, hd3, hn3, hp3⟩
    have ex3 := ex_tr ex2 e3
    have dS : ∀ {H' : Hp}, Ex H3 H' → Dd K H' (.ref ls) (.list (S.map ptD)) := fun e => .lst (SqL.of (e ls _ h3)) (hd3.up e)
    refine s_seq (s_asgI K (n := -1) (ev_un ev_cI ru_neg) fun H4 e4 => ?_)
    refine ⟨fun σ5 H5 => σ5 = [some (.ref a), some (.ref sp), some (.int wd), some (.ref ls), some (.int (if S.all (fun p => decide ((p.length : Int) = wd)) = true then -1 else 0)), none, none, none, none, none] ∧ Ex H3 H5, ?_, ?_⟩
    · refine s_if (et_not (et_test K (ev_cb (ea_cons (EvF.dd (EvF.to (ef_lc1 (fun i => .bool (decide (((S.getD i []).length : Int) = wd))) (ei_list (ev_var rfl (dS e4))) (by rw [List.length_map]; omega) (hwB1 fun _ => rfl) ?_) ?_)) ea_nil) (rc_all (ns := S.map fun p => decide ((p.length : Int) = wd)))))) (fun hc H5 e5 => s_asgI K (n := 0) ev_cI fun H6 e6 => ⟨?_, ex_tr e4 (ex_tr e5 e6)⟩) (fun hc H5 e5 => s_next ⟨?_, ex_tr e4 e5⟩)
      · rintro i H' σ' e hi ⟨u, d, hd', hu, rfl⟩
        obtain ⟨pt, ep, rfl⟩ := map_got hd'
        have eg : S.getD i [] = pt := by rw [List.getD_eq_getElem?_getD, ep]; rfl
        exact ⟨EvD.to (ev_op (EvD.to (ev_cb (ea_cons (ev_var rfl hu) ea_nil) rc_lenT') (by rw [List.length_map])) (ev_varI rfl) (rd_eq rfl rfl)) (by rw [eqv_intD, eg]), rfl⟩
      · rw [List.length_map, List.map_map]
        refine range_map_eq rfl fun i hi => ?_
        rw [List.getD_eq_getElem?_getD, List.getElem?_eq_getElem hi]; rfl
      · rw [List.all_map] at hc
        have : S.all (fun p => decide ((p.length : Int) = wd)) = false := by simpa [Function.comp] using hc
        rw [this]; rfl
      · rw [List.all_map] at hc
        have : S.all (fun p => decide ((p.length : Int) = wd)) = true := by simpa [Function.comp] using hc
        rw [this]; rfl
    rintro σ5 H5 ⟨rfl, e5⟩
    refine ⟨fun σ6 H6 => σ6 = [some (.ref a), some (.ref sp), some (.int wd), some (.ref ls), some (.int (if 6 < S.length then 3 else if S.all (fun p => decide ((p.length : Int) = wd)) = true then -1 else 0)), none, none, none, none, none] ∧ Ex H3 H6, ?_, ?_⟩
    · refine s_if (et_test K (ev_op (EvD.to (ev_cb (ea_cons (ev_var rfl (dS e5)) ea_nil) rc_lenL') (by rw [List.length_map])) ev_cI rd_B0)) (fun hc H6 e6 => s_asgI K (n := 3) ev_cI fun H7 e7 => ⟨?_, ex_tr e5 (ex_tr e6 e7)⟩) (fun hc H6 e6 => s_next ⟨?_, ex_tr e5 e6⟩)
      · have : 6 < S.length := by simp at hc; omega
        rw [if_pos this]; rfl
      · have : ¬ 6 < S.length := by simp at hc; omega
        rw [if_neg this]
    rintro σ6 H6 ⟨rfl, e6⟩
    refine ⟨fun σ7 H7 => σ7 = [some (.ref a), some (.ref sp), some (.int wd), some (.ref ls), some (.int (placeOf wd S)), none, none, none, none, none] ∧ Ex H3 H7, ?_, ?_⟩
    · refine s_if (et_not (et_test K (ev_chain ev_cI (ev_varI rfl) (fun _ => ev_cI) rd_B0 fun _ => rd_B0))) (fun hc H7 e7 => s_asgI K (n := 1) ev_cI fun H8 e8 => ⟨?_, ex_tr e6 (ex_tr e7 e8)⟩) (fun hc H7 e7 => s_next ⟨?_, ex_tr e6 e7⟩)
      · have : ¬ (1 ≤ wd ∧ wd ≤ 4) := by simp at hc; omega
        unfold placeOf
        rw [if_pos this]; rfl
      · have : (1 ≤ wd ∧ wd ≤ 4) := by simp at hc; omega
        have hn : ¬ ¬ (1 ≤ wd ∧ wd ≤ 4) := fun z => z this
        unfold placeOf
        rw [if_neg hn]
    rintro σ7 H7 ⟨rfl, e7⟩
    have ask : ∀ {H' : Hp} {σ' : L2.St} {ts : TE}, σ'[2]? = some (some (.int wd)) → EvD K ts σ' H' (.list (S.map ptD)) → EvD K (tCall (spAskF K) [] E0 (tCons (tVar 2) (tCons ts tNil))) σ' H' (.list (if placeOf wd S = -1 then [.int wd, .list (S.map ptD)] else dueD (placeOf wd S))) := fun z h => EvF.dd (ef_askF (ev_varI z) h (by omega))
    by_cases hpl : placeOf wd S = -1
    · -- nothing is due
      obtain ⟨W', rfl, fok⟩ := place_ok hpl
      refine s_seq (s_if (b := false) (EvB.to (et_test K (ev_op (ev_varI rfl) ev_cI rd_B0)) (by rw [hpl]; decide)) (fun z => by cases z) fun _ H8 e8 => s_next ?_)
      have e38 := ex_tr e7 e8
      refine s_sq (s_asgR (er_lcN (K := K) (fun i => S.getD i []) (ei_list (ev_var rfl (dS e38))) (by rw [List.length_map]; omega) (hwB1 fun _ => rfl) ?_) ?_)
      · rintro i H' σ' e hi ⟨u, d, hd', hu, rfl⟩
        obtain ⟨pt, ep, rfl⟩ := map_got hd'
        have eg : S.getD i [] = pt := by rw [List.getD_eq_getElem?_getD, ep]; rfl
        rw [eg]
        exact ef_cb (ea_cons (ev_var rfl hu) ea_nil) rc_listT
      rintro v H9 ⟨lh, rfl, oN⟩
      have eS : (List.range (S.map ptD).length).map (fun i => S.getD i []) = S := by
        apply List.ext_getElem
        · simp
        · intro i h1 h2
          simp [List.getD_eq_getElem?_getD, List.getElem?_eq_getElem h2]
      rw [eS] at oN
      have hls8 := e38 ls _ h3
      have nlh : ls ≠ lh := by rintro rfl; rw [oN.new] at hls8; cases hls8
      have e39 := ex_tr e38 oN.ex
      obtain ⟨ps, hpl1, hlh9, hps⟩ := oN.at_
      refine s_sq (s_asgR (P := fun v H' => ∃ o lf, v = .ref o ∧ H9 lf = none ∧ Ex H9 H' ∧ FieldL C K H' o lf W' S) (fun Q q => ev_makeL (ds := S.map plD) (ea_cons (ev_varI rfl) (ea_cons (ev_var rfl oN.own.dd) ea_nil)) (handed_pls S) fok Q fun o lf H' ho hlf e hF => q _ H' ⟨o, lf, rfl, hlf, e, hF⟩) ?_)
      rintro v H10 ⟨o, lf, rfl, hlf, e10, hF⟩
      have nlf : lf ≠ lh := by rintro rfl; rw [hlh9] at hlf; cases hlf
      have hlh10 := e10 lh _ hlh9
      refine s_sq ?_
      refine ⟨_, rfl, Or.inl ⟨rfl, _, SqL.of hlh10⟩, ?_⟩
      refine (ef_lc1 (K := K) (fun _ => .int 0) (ei_range1 K (ea_cons (ev_varI rfl) ea_nil) (by have := fok.w4; omega) (by omega)) (by have := fok.w4; omega) (hwBR fun _ => rfl) ?_) H10 ex_refl _ fun pz zs H11 hpz e11 g11 g11' => ?_
      · intro j H5 σ5 e5 hj hb
        obtain rfl := hb
        exact ⟨ev_cI, rfl⟩
      have hlh11 := e11 lh _ hlh10
      refine ⟨lh, _, .ref pz, rfl, rfl, hlh11, Evl.sz_lt (by rw [List.length_map]; omega), ?_⟩
      have c12 : Ex1 lh H11 (upd H11 lh (.lst (ps.map V.ref ++ [.ref pz]))) := ex1_upd
      have g12 : (upd H11 lh (.lst (ps.map V.ref ++ [.ref pz]))) lh = some (.lst (ps.map V.ref ++ [.ref pz])) := upd_same
      generalize upd H11 lh (.lst (ps.map V.ref ++ [.ref pz])) = H12 at c12 g12
      have hF12 := (hF.up e11).ex1b c12 hlh11 nlf
      have hls12 := c12 ls _ ((ex_tr e10 e11) ls _ (oN.ex ls _ hls8)) nlh
      have hd12 : DdAll K H12 xsS (S.map ptD) := (hd3.up (ex_tr e39 (ex_tr e10 e11))).tx (tex1 c12 hlh11) (tupOAll_map tupO_pt S)
      have dS12 : Dd K H12 (.ref ls) (.list (S.map ptD)) := .lst (SqL.of hls12) hd12
      refine ⟨fun σ' H' => σ' = [some (.ref a), some (.ref sp), some (.int (W' : Int)), some (.ref ls), some (.int (placeOf (W' : Int) S)), some (.ref lh), some (.ref o), none, none, none] ∧ FieldL C K H' o lf W' S ∧ Dd K H' (.ref ls) (.list (S.map ptD)), ?_, ?_⟩
      · refine s_if (et_test K (ev_op (EvD.to (ev_cb (ea_cons (ev_var rfl dS12) ea_nil) rc_lenL') (by rw [List.length_map])) ev_cI rd_B0)) (fun hc H13 e13 => ?_) (fun _ H13 e13 => s_next ⟨rfl, hF12.up e13, dS12.up e13⟩)
        have hpos : 0 < S.length := by simp at hc; omega
        obtain ⟨p0, hp0⟩ : ∃ p0, ps[0]? = some p0 := ⟨ps[0], List.getElem?_eq_getElem (by omega)⟩
        obtain ⟨d0, hd0⟩ : ∃ d0, S[0]? = some d0 := ⟨S[0], List.getElem?_eq_getElem hpos⟩
        obtain ⟨k1, k2, k3⟩ := hps 0 p0 d0 hp0 hd0
        have k13 := e13 p0 _ (c12 p0 _ ((ex_tr e10 e11) p0 _ k1) k2)
        refine ⟨_, rfl, rx_lst (n := 0) (v := .ref p0) (e13 lh _ g12) (by rw [List.getElem?_append_left (by rw [List.length_map]; omega), List.getElem?_map, hp0]; rfl) ?_⟩
        refine ⟨Or.inl ⟨rfl, _, SqL.of k13⟩, p0, _, rfl, rfl, k13, ?_⟩
        have c14 : Ex1 p0 H13 (upd H13 p0 (.lst [])) := ex1_upd
        have n1 : lf ≠ p0 := by rintro rfl; rw [k1] at hlf; cases hlf
        have n2 : ls ≠ p0 := by rintro rfl; rw [hls8] at k3; cases k3
        exact ⟨rfl, (hF12.up e13).ex1b c14 k13 n1, .lst (SqL.of (c14 ls _ (e13 ls _ hls12) n2)) ((hd12.up e13).tx (tex1 c14 k13) (tupOAll_map tupO_pt S))⟩
      rintro σ' H13 ⟨rfl, hF13, dS13⟩
      have hA := hF13.at
      refine s_seq (s_if (b := false) (EvB.to (et_or (et_not (et_test K (ev_isi (b := true) (el_steps FC hA rfl).dd (show kitB "list" "list" = some true by decide +kernel)))) fun _ => et_not (et_test K (ev_cb (ea_cons (EvF.dd (EvF.to (ef_lc1 (fun _ => .bool true) (ei_list (el_steps FC hA rfl).dd) (by rw [List.length_map]; omega) (hwB1 fun _ => rfl) ?_) ?_)) ea_nil) (rc_all (ns := List.replicate S.length true))))) ?_) (fun z => by cases z) fun _ H14 e14 => s_next ?_)
      · rintro i H' σ' e hi ⟨u, d, hd', hu, rfl⟩
        obtain ⟨pt, ep, rfl⟩ := map_got hd'
        exact ⟨ev_isi (b := true) (ev_var rfl hu) (show kitB "tuple" "tuple" = some true by decide +kernel), rfl⟩
      · rw [List.map_replicate, List.length_map]
        exact List.eq_replicate_iff.mpr ⟨by simp, fun b hb => by obtain ⟨_, _, rfl⟩ := List.mem_map.mp hb; rfl⟩
      · simp
      have hA14 := hA.up e14
      refine s_sq (s_asgB K (n := true) (EvD.to (ev_andV (ev_isi (b := true) (ev_width FC hA14 rfl) (show kitB "int" "int" = some true by decide +kernel)) fun _ => ev_notV (ev_isi (b := false) (ev_width FC hA14 rfl) (show kitB "int" "bool" = some false by decide +kernel))) rfl) fun H15 e15 => ?_)
      have hA15 := hA14.up e15
      have dS15 := dS13.up (ex_tr e14 e15)
      refine s_nx (s_ret (K := K) (d := .bool true) (EvD.to (ev_andV (ev_varB rfl) fun _ => ev_andV (ev_op (ev_width FC hA15 rfl) (ev_varI rfl) (rd_eq rfl rfl)) fun _ => ev_andV (ev_op (el_steps FC hA15 rfl).dd (ev_var rfl dS15) (rd_eq (shaped_pts S) (shaped_pts S))) fun _ => ev_op (EvD.to (ask rfl (ev_var rfl dS15)) (by rw [if_pos hpl])) (EvF.dd (ef_lst (ea_cons (ev_varI rfl) (ea_cons (ev_var rfl dS15) ea_nil)) (by simp))) (rd_eq (shaped_ask _ S) (shaped_ask _ S))) ?_) fun v H16 e16 hv => ?_)
      · rw [eqv_intD, eqv_pts_refl, eqv_ask]
        simp
      · obtain rfl := dp_bl hv
        exact q H16
    · -- a refusal is due
      have pl : placeOf wd S = 1 ∨ placeOf wd S = 3 ∨ placeOf wd S = 0 := by
        rcases place_all wd S with h | h | h | h
        · exact .inl h
        · exact .inr (.inl h)
        · exact .inr (.inr h)
        · exact absurd h hpl
      simp only [if_neg hpl] at ask
      generalize placeOf wd S = pz at *
      obtain ⟨sh, ev⟩ := due_refl pl
      refine s_seq (s_if (b := true) (EvB.to (et_test K (ev_op (ev_varI rfl) ev_cI rd_B0)) (by simp; omega)) (fun _ H8 e8 => ?_) (fun z => by cases z))
      have e38 := ex_tr e7 e8
      have due : ∀ {H' : Hp} {σ' : L2.St}, σ'[4]? = some (some (.int pz)) → EvD K (tCall (spF K RDue) [] E0 (tCons (tVar 4) tNil)) σ' H' (.list (dueD pz)) := fun z => EvF.dd (ef_call (ea_cons (ev_varI z) ea_nil) (spF_go ⟨pz, rfl, rfl⟩))
      refine s_ret (K := K) (d := .bool true) (EvD.to (ev_andV (ev_op (ask rfl (ev_var rfl (dS e38))) (due rfl) (rd_eq sh sh)) fun _ => ev_op (ask rfl (EvF.dd (ef_cb (ea_cons (ev_var rfl (dS e38)) ea_nil) rc_listL))) (due rfl) (rd_eq sh sh)) ?_) fun v H9 e9 hv => ?_
      · rw [ev]; rfl
      · obtain rfl := dp_bl hv
        exact q H9
end
theorem all_mk {l : PySem.W.OpenLaw} {w : World} {K : PySem.W.Frag} {h : Heap} {mg : Str → Option Value} {fa C D_BadStep D_BadWidth D_FieldError D_NoField D_TooMany D_Unlike f_Field___init__ f__law_cell_at f__law_next f__law_number f__law_steps f__law_which f__law_due f__law_asked f__law_spoilt f_law : Addr} (X : K.In h) (G : h.Ns mainGlobals mg) (hfa : mg "law" = some (.ref fa)) (ht : l.prog.given.tree = none)
    {od_Field___init__ an_Field___init__ od__law_cell_at an__law_cell_at od__law_next an__law_next od__law_number an__law_number od__law_steps an__law_steps od__law_which an__law_which od__law_due an__law_due od__law_asked an__law_asked od__law_spoilt an__law_spoilt od_law an_law : Option Addr} {sl_Field___init__ sl__law_cell_at sl__law_next sl__law_number sl__law_steps sl__law_which sl__law_due sl__law_asked sl__law_spoilt sl_law : Array (Option Value)} {oc_Field___init__ kV_Field___init__ dc_Field___init__ pm_Field___init__ cd_Field___init__ ct_Field___init__ oc__law_cell_at kV__law_cell_at dc__law_cell_at pm__law_cell_at cd__law_cell_at ct__law_cell_at oc__law_next kV__law_next dc__law_next pm__law_next cd__law_next ct__law_next oc__law_number kV__law_number dc__law_number pm__law_number cd__law_number ct__law_number oc__law_steps kV__law_steps dc__law_steps pm__law_steps cd__law_steps ct__law_steps oc__law_which kV__law_which dc__law_which pm__law_which cd__law_which ct__law_which oc__law_due kV__law_due dc__law_due pm__law_due cd__law_due ct__law_due oc__law_asked kV__law_asked dc__law_asked pm__law_asked cd__law_asked ct__law_asked oc__law_spoilt kV__law_spoilt dc__law_spoilt pm__law_spoilt cd__law_spoilt ct__law_spoilt oc_law kV_law dc_law pm_law cd_law ct_law : Value} {tc_MOST_STEPS tc_WIDEST : Tok}
    (aC : PySem.W.nsIn K mainGlobals "Field" = some (some (.ref C)))
    (a_Field___init__ : PySem.W.findIn K (.ref C) "__init__" = some (some (.ref f_Field___init__)))
    (i_Field___init__ : PySem.W.isFn K (.ref f_Field___init__) = true)
    (l_Field___init__ : K.lookup f_Field___init__ = some ⟨oc_Field___init__, od_Field___init__, .func (PySem.W.fnOf "__init__" "Field.__init__" (defArgs s_Field___init__) (defBody s_Field___init__) (defScope s_Field___init__) .none kV_Field___init__ dc_Field___init__ pm_Field___init__ an_Field___init__ cd_Field___init__ ct_Field___init__), sl_Field___init__⟩)
    (c_Field___init__ : PySem.W.codeIn K cd_Field___init__ "Field.__init__" = true)
    (k_Field___init__ : PySem.W.keepIn K (.ref f_Field___init__) = true)
    (a__law_cell_at : PySem.W.nsIn K mainGlobals "_law_cell_at" = some (some (.ref f__law_cell_at)))
    (l__law_cell_at : K.lookup f__law_cell_at = some ⟨oc__law_cell_at, od__law_cell_at, .func (PySem.W.fnOf "_law_cell_at" "_law_cell_at" (defArgs s__law_cell_at) (defBody s__law_cell_at) (defScope s__law_cell_at) .none kV__law_cell_at dc__law_cell_at pm__law_cell_at an__law_cell_at cd__law_cell_at ct__law_cell_at), sl__law_cell_at⟩)
    (c__law_cell_at : PySem.W.codeIn K cd__law_cell_at "_law_cell_at" = true)
    (k__law_cell_at : PySem.W.keepIn K (.ref f__law_cell_at) = true)
    (a__law_next : PySem.W.nsIn K mainGlobals "_law_next" = some (some (.ref f__law_next)))
    (l__law_next : K.lookup f__law_next = some ⟨oc__law_next, od__law_next, .func (PySem.W.fnOf "_law_next" "_law_next" (defArgs s__law_next) (defBody s__law_next) (defScope s__law_next) .none kV__law_next dc__law_next pm__law_next an__law_next cd__law_next ct__law_next), sl__law_next⟩)
    (c__law_next : PySem.W.codeIn K cd__law_next "_law_next" = true)
    (k__law_next : PySem.W.keepIn K (.ref f__law_next) = true)
    (a__law_number : PySem.W.nsIn K mainGlobals "_law_number" = some (some (.ref f__law_number)))
    (l__law_number : K.lookup f__law_number = some ⟨oc__law_number, od__law_number, .func (PySem.W.fnOf "_law_number" "_law_number" (defArgs s__law_number) (defBody s__law_number) (defScope s__law_number) .none kV__law_number dc__law_number pm__law_number an__law_number cd__law_number ct__law_number), sl__law_number⟩)
    (c__law_number : PySem.W.codeIn K cd__law_number "_law_number" = true)
    (k__law_number : PySem.W.keepIn K (.ref f__law_number) = true)
    (a__law_steps : PySem.W.nsIn K mainGlobals "_law_steps" = some (some (.ref f__law_steps)))
    (l__law_steps : K.lookup f__law_steps = some ⟨oc__law_steps, od__law_steps, .func (PySem.W.fnOf "_law_steps" "_law_steps" (defArgs s__law_steps) (defBody s__law_steps) (defScope s__law_steps) .none kV__law_steps dc__law_steps pm__law_steps an__law_steps cd__law_steps ct__law_steps), sl__law_steps⟩)
    (c__law_steps : PySem.W.codeIn K cd__law_steps "_law_steps" = true)
    (k__law_steps : PySem.W.keepIn K (.ref f__law_steps) = true)
    (a__law_which : PySem.W.nsIn K mainGlobals "_law_which" = some (some (.ref f__law_which)))
    (l__law_which : K.lookup f__law_which = some ⟨oc__law_which, od__law_which, .func (PySem.W.fnOf "_law_which" "_law_which" (defArgs s__law_which) (defBody s__law_which) (defScope s__law_which) .none kV__law_which dc__law_which pm__law_which an__law_which cd__law_which ct__law_which), sl__law_which⟩)
    (c__law_which : PySem.W.codeIn K cd__law_which "_law_which" = true)
    (k__law_which : PySem.W.keepIn K (.ref f__law_which) = true)
    (a__law_due : PySem.W.nsIn K mainGlobals "_law_due" = some (some (.ref f__law_due)))
    (l__law_due : K.lookup f__law_due = some ⟨oc__law_due, od__law_due, .func (PySem.W.fnOf "_law_due" "_law_due" (defArgs s__law_due) (defBody s__law_due) (defScope s__law_due) .none kV__law_due dc__law_due pm__law_due an__law_due cd__law_due ct__law_due), sl__law_due⟩)
    (c__law_due : PySem.W.codeIn K cd__law_due "_law_due" = true)
    (k__law_due : PySem.W.keepIn K (.ref f__law_due) = true)
    (a__law_asked : PySem.W.nsIn K mainGlobals "_law_asked" = some (some (.ref f__law_asked)))
    (l__law_asked : K.lookup f__law_asked = some ⟨oc__law_asked, od__law_asked, .func (PySem.W.fnOf "_law_asked" "_law_asked" (defArgs s__law_asked) (defBody s__law_asked) (defScope s__law_asked) .none kV__law_asked dc__law_asked pm__law_asked an__law_asked cd__law_asked ct__law_asked), sl__law_asked⟩)
    (c__law_asked : PySem.W.codeIn K cd__law_asked "_law_asked" = true)
    (k__law_asked : PySem.W.keepIn K (.ref f__law_asked) = true)
    (a__law_spoilt : PySem.W.nsIn K mainGlobals "_law_spoilt" = some (some (.ref f__law_spoilt)))
    (l__law_spoilt : K.lookup f__law_spoilt = some ⟨oc__law_spoilt, od__law_spoilt, .func (PySem.W.fnOf "_law_spoilt" "_law_spoilt" (defArgs s__law_spoilt) (defBody s__law_spoilt) (defScope s__law_spoilt) .none kV__law_spoilt dc__law_spoilt pm__law_spoilt an__law_spoilt cd__law_spoilt ct__law_spoilt), sl__law_spoilt⟩)
    (c__law_spoilt : PySem.W.codeIn K cd__law_spoilt "_law_spoilt" = true)
    (k__law_spoilt : PySem.W.keepIn K (.ref f__law_spoilt) = true)
    (a_law : PySem.W.nsIn K mainGlobals "law" = some (some (.ref f_law)))
    (l_law : K.lookup f_law = some ⟨oc_law, od_law, .func (PySem.W.fnOf "law" "law" (defArgs s_law) (defBody s_law) (defScope s_law) .none kV_law dc_law pm_law an_law cd_law ct_law), sl_law⟩)
    (c_law : PySem.W.codeIn K cd_law "law" = true)
    (k_law : PySem.W.keepIn K (.ref f_law) = true)
    (pg : PySem.W.plainGet K C Str.empty = true)
    (hd : PySem.W.hasDictIn K C = true)
    (po : PySem.W.plainOver K C = true)
    (sa : PySem.W.findIn K (.ref C) "__setattr__" = some (some (.builtin "object.__setattr__")))
    (mk : PySem.W.makesIn K C = true)
    (kc : PySem.W.keepIn K (.ref C) = true)
    (nW : PySem.W.findIn K (.ref C) "width" = some none)
    (nS : PySem.W.findIn K (.ref C) "steps" = some none)
    (z_len : PySem.W.nsIn K mainGlobals "len" = some none)
    (z_zip : PySem.W.nsIn K mainGlobals "zip" = some none)
    (z_tuple : PySem.W.nsIn K mainGlobals "tuple" = some none)
    (z_list : PySem.W.nsIn K mainGlobals "list" = some none)
    (z_sum : PySem.W.nsIn K mainGlobals "sum" = some none)
    (z_abs : PySem.W.nsIn K mainGlobals "abs" = some none)
    (z_int : PySem.W.nsIn K mainGlobals "int" = some none)
    (z_bool : PySem.W.nsIn K mainGlobals "bool" = some none)
    (z_str : PySem.W.nsIn K mainGlobals "str" = some none)
    (z_range : PySem.W.nsIn K mainGlobals "range" = some none)
    (z_enumerate : PySem.W.nsIn K mainGlobals "enumerate" = some none)
    (z_isinstance : PySem.W.nsIn K mainGlobals "isinstance" = some none)
    (z_all : PySem.W.nsIn K mainGlobals "all" = some none)
    (z_max : PySem.W.nsIn K mainGlobals "max" = some none)
    (z_min : PySem.W.nsIn K mainGlobals "min" = some none)
    (z_reversed : PySem.W.nsIn K mainGlobals "reversed" = some none)
    (eg_BadStep : PySem.W.nsIn K mainGlobals "BadStep" = some (some (.ref D_BadStep)))
    (ex_BadStep : PySem.W.excIn K D_BadStep [.type "ValueError", .type "Exception", .type "BaseException", .type "object"] "ValueError.__new__" = true)
    (ek_BadStep : PySem.W.keepIn K (.ref D_BadStep) = true)
    (eb_BadStep : PySem.W.subIn K (.ref D_BadStep) (.type "BaseException") = some true)
    (et_BadStep : PySem.W.typeIn K (.ref D_BadStep) = some (.type "type"))
    (ed_BadStep : PySem.W.hasDictIn K D_BadStep = true)
    (eg_BadWidth : PySem.W.nsIn K mainGlobals "BadWidth" = some (some (.ref D_BadWidth)))
    (ex_BadWidth : PySem.W.excIn K D_BadWidth [.type "ValueError", .type "Exception", .type "BaseException", .type "object"] "ValueError.__new__" = true)
    (ek_BadWidth : PySem.W.keepIn K (.ref D_BadWidth) = true)
    (eb_BadWidth : PySem.W.subIn K (.ref D_BadWidth) (.type "BaseException") = some true)
    (et_BadWidth : PySem.W.typeIn K (.ref D_BadWidth) = some (.type "type"))
    (ed_BadWidth : PySem.W.hasDictIn K D_BadWidth = true)
    (eg_FieldError : PySem.W.nsIn K mainGlobals "FieldError" = some (some (.ref D_FieldError)))
    (ex_FieldError : PySem.W.excIn K D_FieldError [.type "ValueError", .type "Exception", .type "BaseException", .type "object"] "ValueError.__new__" = true)
    (ek_FieldError : PySem.W.keepIn K (.ref D_FieldError) = true)
    (eb_FieldError : PySem.W.subIn K (.ref D_FieldError) (.type "BaseException") = some true)
    (et_FieldError : PySem.W.typeIn K (.ref D_FieldError) = some (.type "type"))
    (ed_FieldError : PySem.W.hasDictIn K D_FieldError = true)
    (eg_NoField : PySem.W.nsIn K mainGlobals "NoField" = some (some (.ref D_NoField)))
    (ex_NoField : PySem.W.excIn K D_NoField [.type "ValueError", .type "Exception", .type "BaseException", .type "object"] "ValueError.__new__" = true)
    (ek_NoField : PySem.W.keepIn K (.ref D_NoField) = true)
    (eb_NoField : PySem.W.subIn K (.ref D_NoField) (.type "BaseException") = some true)
    (et_NoField : PySem.W.typeIn K (.ref D_NoField) = some (.type "type"))
    (ed_NoField : PySem.W.hasDictIn K D_NoField = true)
    (eg_TooMany : PySem.W.nsIn K mainGlobals "TooMany" = some (some (.ref D_TooMany)))
    (ex_TooMany : PySem.W.excIn K D_TooMany [.type "ValueError", .type "Exception", .type "BaseException", .type "object"] "ValueError.__new__" = true)
    (ek_TooMany : PySem.W.keepIn K (.ref D_TooMany) = true)
    (eb_TooMany : PySem.W.subIn K (.ref D_TooMany) (.type "BaseException") = some true)
    (et_TooMany : PySem.W.typeIn K (.ref D_TooMany) = some (.type "type"))
    (ed_TooMany : PySem.W.hasDictIn K D_TooMany = true)
    (eg_Unlike : PySem.W.nsIn K mainGlobals "Unlike" = some (some (.ref D_Unlike)))
    (ex_Unlike : PySem.W.excIn K D_Unlike [.type "ValueError", .type "Exception", .type "BaseException", .type "object"] "ValueError.__new__" = true)
    (ek_Unlike : PySem.W.keepIn K (.ref D_Unlike) = true)
    (eb_Unlike : PySem.W.subIn K (.ref D_Unlike) (.type "BaseException") = some true)
    (et_Unlike : PySem.W.typeIn K (.ref D_Unlike) = some (.type "type"))
    (ed_Unlike : PySem.W.hasDictIn K D_Unlike = true)
    (I_BadStep_BadStep : PySem.W.kitOne K (.ref D_BadStep) (.ref D_BadStep) = some true)
    (I_BadStep_BadWidth : PySem.W.kitOne K (.ref D_BadStep) (.ref D_BadWidth) = some false)
    (I_BadStep_NoField : PySem.W.kitOne K (.ref D_BadStep) (.ref D_NoField) = some false)
    (I_BadStep_TooMany : PySem.W.kitOne K (.ref D_BadStep) (.ref D_TooMany) = some false)
    (I_BadStep_Unlike : PySem.W.kitOne K (.ref D_BadStep) (.ref D_Unlike) = some false)
    (I_BadStep_ValueError : PySem.W.kitOne K (.ref D_BadStep) (.type "ValueError") = some true)
    (I_BadWidth_BadStep : PySem.W.kitOne K (.ref D_BadWidth) (.ref D_BadStep) = some false)
    (I_BadWidth_BadWidth : PySem.W.kitOne K (.ref D_BadWidth) (.ref D_BadWidth) = some true)
    (I_BadWidth_NoField : PySem.W.kitOne K (.ref D_BadWidth) (.ref D_NoField) = some false)
    (I_BadWidth_TooMany : PySem.W.kitOne K (.ref D_BadWidth) (.ref D_TooMany) = some false)
    (I_BadWidth_Unlike : PySem.W.kitOne K (.ref D_BadWidth) (.ref D_Unlike) = some false)
    (I_BadWidth_ValueError : PySem.W.kitOne K (.ref D_BadWidth) (.type "ValueError") = some true)
    (I_TooMany_BadStep : PySem.W.kitOne K (.ref D_TooMany) (.ref D_BadStep) = some false)
    (I_TooMany_BadWidth : PySem.W.kitOne K (.ref D_TooMany) (.ref D_BadWidth) = some false)
    (I_TooMany_NoField : PySem.W.kitOne K (.ref D_TooMany) (.ref D_NoField) = some false)
    (I_TooMany_TooMany : PySem.W.kitOne K (.ref D_TooMany) (.ref D_TooMany) = some true)
    (I_TooMany_Unlike : PySem.W.kitOne K (.ref D_TooMany) (.ref D_Unlike) = some false)
    (I_TooMany_ValueError : PySem.W.kitOne K (.ref D_TooMany) (.type "ValueError") = some true)
    (yg_BadStep : PySem.W.findIn K (.ref D_BadStep) "__getattribute__" = some (some (.builtin "BaseException.__getattribute__")))
    (yk_BadStep : PySem.W.findIn K (.ref D_BadStep) "__getattr__" = some none)
    (ya_BadStep : PySem.W.findIn K (.ref D_BadStep) "__class__" = some (some (.builtin "object.__class__")))
    (ym_BadStep : PySem.W.mroIn K D_BadStep (.type "object") = some true)
    (yg_BadWidth : PySem.W.findIn K (.ref D_BadWidth) "__getattribute__" = some (some (.builtin "BaseException.__getattribute__")))
    (yk_BadWidth : PySem.W.findIn K (.ref D_BadWidth) "__getattr__" = some none)
    (ya_BadWidth : PySem.W.findIn K (.ref D_BadWidth) "__class__" = some (some (.builtin "object.__class__")))
    (ym_BadWidth : PySem.W.mroIn K D_BadWidth (.type "object") = some true)
    (yg_TooMany : PySem.W.findIn K (.ref D_TooMany) "__getattribute__" = some (some (.builtin "BaseException.__getattribute__")))
    (yk_TooMany : PySem.W.findIn K (.ref D_TooMany) "__getattr__" = some none)
    (ya_TooMany : PySem.W.findIn K (.ref D_TooMany) "__class__" = some (some (.builtin "object.__class__")))
    (ym_TooMany : PySem.W.mroIn K D_TooMany (.type "object") = some true)
    (yn : PySem.W.specialIn K (.builtin "object.__class__") "__get__" = some (some (.builtin "getset_descriptor.__get__")))
    (yt : PySem.W.takesIn K (.builtin "object.__class__") = some true)
    (z_ValueError : PySem.W.nsIn K mainGlobals "ValueError" = some none)
    (S_BadStep_FieldError : PySem.W.subIn K (.ref D_BadStep) (.ref D_FieldError) = some true)
    (S_BadWidth_FieldError : PySem.W.subIn K (.ref D_BadWidth) (.ref D_FieldError) = some true)
    (S_TooMany_FieldError : PySem.W.subIn K (.ref D_TooMany) (.ref D_FieldError) = some true)
    (gc_MOST_STEPS : PySem.W.nsIn K mainGlobals "MOST_STEPS" = some (some (.int 6 tc_MOST_STEPS)))
    (gc_WIDEST : PySem.W.nsIn K mainGlobals "WIDEST" = some (some (.int 4 tc_WIDEST)))
    : ∃ fd : FuncData, (∀ (s : Shared) (v : Value), BindsTo s fd ⟨[v], []⟩ [("script", v)]) ∧ ∀ base : Heap, K.In base → base.Ns mainGlobals mg → base.NoSeer → FnOk l.prog w K mg base CX0 44 fa fd ["script"] (spLaw K) := by
  have e := hfa.symm.trans (PySem.W.mg_of X G a_law)
  cases e
  have c_MOST_STEPS := PySem.W.mg_of X G gc_MOST_STEPS
  have c_WIDEST := PySem.W.mg_of X G gc_WIDEST
  have F_Field___init__ := fun_mk (st := s_Field___init__) l_Field___init__ c_Field___init__ k_Field___init__
  have b_Field___init__ := F_Field___init__.binds (ps := ["self", "width", "steps"]) fun _ _ _ _ _ _ us hl => match us, hl with | [_, _, _], _ => rfl
  have F__law_cell_at := fun_mk (st := s__law_cell_at) l__law_cell_at c__law_cell_at k__law_cell_at
  have b__law_cell_at := F__law_cell_at.binds (ps := ["script", "k"]) fun _ _ _ _ _ _ us hl => match us, hl with | [_, _], _ => rfl
  have F__law_next := fun_mk (st := s__law_next) l__law_next c__law_next k__law_next
  have b__law_next := F__law_next.binds (ps := ["script", "spot"]) fun _ _ _ _ _ _ us hl => match us, hl with | [_, _], _ => rfl
  have F__law_number := fun_mk (st := s__law_number) l__law_number c__law_number k__law_number
  have b__law_number := F__law_number.binds (ps := ["cell", "great"]) fun _ _ _ _ _ _ us hl => match us, hl with | [_, _], _ => rfl
  have F__law_steps := fun_mk (st := s__law_steps) l__law_steps c__law_steps k__law_steps
  have b__law_steps := F__law_steps.binds (ps := ["script", "spot", "width", "most", "great"]) fun _ _ _ _ _ _ us hl => match us, hl with | [_, _, _, _, _], _ => rfl
  have F__law_which := fun_mk (st := s__law_which) l__law_which c__law_which k__law_which
  have b__law_which := F__law_which.binds (ps := ["e"]) fun _ _ _ _ _ _ us hl => match us, hl with | [_], _ => rfl
  have F__law_due := fun_mk (st := s__law_due) l__law_due c__law_due k__law_due
  have b__law_due := F__law_due.binds (ps := ["place"]) fun _ _ _ _ _ _ us hl => match us, hl with | [_], _ => rfl
  have F__law_asked := fun_mk (st := s__law_asked) l__law_asked c__law_asked k__law_asked
  have b__law_asked := F__law_asked.binds (ps := ["width", "steps"]) fun _ _ _ _ _ _ us hl => match us, hl with | [_, _], _ => rfl
  have F__law_spoilt := fun_mk (st := s__law_spoilt) l__law_spoilt c__law_spoilt k__law_spoilt
  have b__law_spoilt := F__law_spoilt.binds (ps := ["script", "width", "steps"]) fun _ _ _ _ _ _ us hl => match us, hl with | [_, _, _], _ => rfl
  have F_law := fun_mk (st := s_law) l_law c_law k_law
  have S : Bl mg := ⟨PySem.W.mg_none_of X G z_len, PySem.W.mg_none_of X G z_zip, PySem.W.mg_none_of X G z_tuple, PySem.W.mg_none_of X G z_list, PySem.W.mg_none_of X G z_sum, PySem.W.mg_none_of X G z_abs, PySem.W.mg_none_of X G z_int, PySem.W.mg_none_of X G z_bool, PySem.W.mg_none_of X G z_str, PySem.W.mg_none_of X G z_range, PySem.W.mg_none_of X G z_enumerate, PySem.W.mg_none_of X G z_isinstance, PySem.W.mg_none_of X G z_all, PySem.W.mg_none_of X G z_max, PySem.W.mg_none_of X G z_min, PySem.W.mg_none_of X G z_reversed⟩
  have FC : FCls K C := ⟨⟨pg, hd, po, sa⟩, nW, nS⟩
  have E_BadStep : ErrC K mg "BadStep" D_BadStep := ⟨PySem.W.mg_of X G eg_BadStep, ex_BadStep, ek_BadStep, eb_BadStep, et_BadStep, ed_BadStep⟩
  have E_BadWidth : ErrC K mg "BadWidth" D_BadWidth := ⟨PySem.W.mg_of X G eg_BadWidth, ex_BadWidth, ek_BadWidth, eb_BadWidth, et_BadWidth, ed_BadWidth⟩
  have E_FieldError : ErrC K mg "FieldError" D_FieldError := ⟨PySem.W.mg_of X G eg_FieldError, ex_FieldError, ek_FieldError, eb_FieldError, et_FieldError, ed_FieldError⟩
  have E_NoField : ErrC K mg "NoField" D_NoField := ⟨PySem.W.mg_of X G eg_NoField, ex_NoField, ek_NoField, eb_NoField, et_NoField, ed_NoField⟩
  have E_TooMany : ErrC K mg "TooMany" D_TooMany := ⟨PySem.W.mg_of X G eg_TooMany, ex_TooMany, ek_TooMany, eb_TooMany, et_TooMany, ed_TooMany⟩
  have E_Unlike : ErrC K mg "Unlike" D_Unlike := ⟨PySem.W.mg_of X G eg_Unlike, ex_Unlike, ek_Unlike, eb_Unlike, et_Unlike, ed_Unlike⟩
  have Y_BadStep : ExcC K D_BadStep := ⟨yg_BadStep, yk_BadStep, eb_BadStep, ed_BadStep, ya_BadStep, yn, yt, ym_BadStep⟩
  have Y_BadWidth : ExcC K D_BadWidth := ⟨yg_BadWidth, yk_BadWidth, eb_BadWidth, ed_BadWidth, ya_BadWidth, yn, yt, ym_BadWidth⟩
  have Y_TooMany : ExcC K D_TooMany := ⟨yg_TooMany, yk_TooMany, eb_TooMany, ed_TooMany, ya_TooMany, yn, yt, ym_TooMany⟩
  have N_ValueError := PySem.W.mg_none_of X G z_ValueError
  refine ⟨PySem.W.fnOf "law" "law" (defArgs s_law) (defBody s_law) (defScope s_law) .none kV_law dc_law pm_law an_law cd_law ct_law, fun s v => .of_eq rfl, fun base _ _ hs => ?_⟩
  have T : Ctx l.prog K mg base := ⟨S, hs, ht⟩
  have XM_Field : CalMX l.prog w K mg base 41 "Field" C _ _ := ⟨_, _, ⟨mk, a_Field___init__, i_Field___init__, kc⟩, okx_Field___init__ (P := l.prog) (C := C) (w := w) F_Field___init__ T E_BadStep E_BadWidth E_TooMany c_WIDEST c_MOST_STEPS, PySem.W.mg_of X G aC, b_Field___init__⟩
  have M_Field : CalM l.prog w K mg base 41 "Field" C _ _ := ⟨_, _, ⟨mk, a_Field___init__, i_Field___init__, kc⟩, ok_Field___init__ (P := l.prog) (w := w) F_Field___init__ T FC c_WIDEST c_MOST_STEPS, PySem.W.mg_of X G aC, b_Field___init__⟩
  have C__law_cell_at : Cal l.prog w K mg base 41 "_law_cell_at" _ _ := ⟨_, _, ok__law_cell_at (P := l.prog) (w := w) F__law_cell_at T, PySem.W.mg_of X G a__law_cell_at, k__law_cell_at, b__law_cell_at⟩
  have C__law_next : Cal l.prog w K mg base 42 "_law_next" _ _ := ⟨_, _, ok__law_next (P := l.prog) (w := w) F__law_next T C__law_cell_at, PySem.W.mg_of X G a__law_next, k__law_next, b__law_next⟩
  have C__law_number : Cal l.prog w K mg base 41 "_law_number" _ _ := ⟨_, _, ok__law_number (P := l.prog) (w := w) F__law_number T, PySem.W.mg_of X G a__law_number, k__law_number, b__law_number⟩
  have C__law_steps : Cal l.prog w K mg base 43 "_law_steps" _ _ := ⟨_, _, ok__law_steps (P := l.prog) (w := w) F__law_steps T C__law_next C__law_number, PySem.W.mg_of X G a__law_steps, k__law_steps, b__law_steps⟩
  have C__law_which : CalP l.prog w K mg base 41 "_law_which" _ _ := ⟨_, _, okp__law_which (P := l.prog) (w := w) F__law_which T E_BadStep E_BadWidth E_NoField E_TooMany E_Unlike N_ValueError, PySem.W.mg_of X G a__law_which, k__law_which, b__law_which⟩
  have C__law_due : Cal l.prog w K mg base 41 "_law_due" _ _ := ⟨_, _, ok__law_due (P := l.prog) (w := w) F__law_due T, PySem.W.mg_of X G a__law_due, k__law_due, b__law_due⟩
  have C__law_asked : Cal l.prog w K mg base 43 "_law_asked" _ _ := ⟨_, _, ok__law_asked (P := l.prog) (w := w) F__law_asked T FC E_FieldError S_BadStep_FieldError Y_BadStep I_BadStep_BadStep I_BadStep_BadWidth I_BadStep_NoField I_BadStep_TooMany I_BadStep_Unlike I_BadStep_ValueError S_BadWidth_FieldError Y_BadWidth I_BadWidth_BadStep I_BadWidth_BadWidth I_BadWidth_NoField I_BadWidth_TooMany I_BadWidth_Unlike I_BadWidth_ValueError S_TooMany_FieldError Y_TooMany I_TooMany_BadStep I_TooMany_BadWidth I_TooMany_NoField I_TooMany_TooMany I_TooMany_Unlike I_TooMany_ValueError M_Field XM_Field C__law_which, PySem.W.mg_of X G a__law_asked, k__law_asked, b__law_asked⟩
  have C__law_spoilt : Cal l.prog w K mg base 43 "_law_spoilt" _ _ := ⟨_, _, ok__law_spoilt (P := l.prog) (w := w) F__law_spoilt T C__law_cell_at, PySem.W.mg_of X G a__law_spoilt, k__law_spoilt, b__law_spoilt⟩
  exact ok_law (P := l.prog) (w := w) F_law T FC C__law_cell_at C__law_steps M_Field C__law_spoilt C__law_asked C__law_due
end SF
open PySem PySem.W PyProof.Rows
set_option maxRecDepth 100000 in
set_option maxHeartbeats 0 in
theorem PySem.Challenge.cw_stepfield_k01_fields_made_holds : PySem.Challenge.rw_stepfield_k01_fields_made.Holds := by
  w_on; o_law; k_head; (case hw => w_witness2)
  k_fill
  refine SF.walk_ofS (l := PySem.Challenge.rw_stepfield_k01_fields_made) (n := 63) (k := 44) (x := "script") (CX := L2.CX0) (sp := fun K => SF.spLaw K) rfl (by decide) rfl ⟨rfl, by decide, by decide⟩ (by decide +kernel) (fun w h Y => PySem.W.kIn_of Y) ?F (fun _ H a ns hl ho hS => ⟨a, ns, rfl, SF.scr_of ho hS, hl, fun _ => rfl⟩) (fun _ _ _ _ h => h)
  case F =>
    intro w mg fa h KX G hmg0
    have hmg : mg "law" = some (.ref fa) := hmg0
    clear hmg0
    refine' SF.all_mk (l := PySem.Challenge.rw_stepfield_k01_fields_made) KX G hmg rfl ?aC ?a_Field___init__ ?i_Field___init__ ?l_Field___init__ ?c_Field___init__ ?k_Field___init__ ?a__law_cell_at ?l__law_cell_at ?c__law_cell_at ?k__law_cell_at ?a__law_next ?l__law_next ?c__law_next ?k__law_next ?a__law_number ?l__law_number ?c__law_number ?k__law_number ?a__law_steps ?l__law_steps ?c__law_steps ?k__law_steps ?a__law_which ?l__law_which ?c__law_which ?k__law_which ?a__law_due ?l__law_due ?c__law_due ?k__law_due ?a__law_asked ?l__law_asked ?c__law_asked ?k__law_asked ?a__law_spoilt ?l__law_spoilt ?c__law_spoilt ?k__law_spoilt ?a_law ?l_law ?c_law ?k_law ?pg ?hd ?po ?sa ?mk ?kc ?nW ?nS ?z_len ?z_zip ?z_tuple ?z_list ?z_sum ?z_abs ?z_int ?z_bool ?z_str ?z_range ?z_enumerate ?z_isinstance ?z_all ?z_max ?z_min ?z_reversed ?eg_BadStep ?ex_BadStep ?ek_BadStep ?eb_BadStep ?et_BadStep ?ed_BadStep ?eg_BadWidth ?ex_BadWidth ?ek_BadWidth ?eb_BadWidth ?et_BadWidth ?ed_BadWidth ?eg_FieldError ?ex_FieldError ?ek_FieldError ?eb_FieldError ?et_FieldError ?ed_FieldError ?eg_NoField ?ex_NoField ?ek_NoField ?eb_NoField ?et_NoField ?ed_NoField ?eg_TooMany ?ex_TooMany ?ek_TooMany ?eb_TooMany ?et_TooMany ?ed_TooMany ?eg_Unlike ?ex_Unlike ?ek_Unlike ?eb_Unlike ?et_Unlike ?ed_Unlike ?I_BadStep_BadStep ?I_BadStep_BadWidth ?I_BadStep_NoField ?I_BadStep_TooMany ?I_BadStep_Unlike ?I_BadStep_ValueError ?I_BadWidth_BadStep ?I_BadWidth_BadWidth ?I_BadWidth_NoField ?I_BadWidth_TooMany ?I_BadWidth_Unlike ?I_BadWidth_ValueError ?I_TooMany_BadStep ?I_TooMany_BadWidth ?I_TooMany_NoField ?I_TooMany_TooMany ?I_TooMany_Unlike ?I_TooMany_ValueError ?yg_BadStep ?yk_BadStep ?ya_BadStep ?ym_BadStep ?yg_BadWidth ?yk_BadWidth ?ya_BadWidth ?ym_BadWidth ?yg_TooMany ?yk_TooMany ?ya_TooMany ?ym_TooMany ?yn ?yt ?z_ValueError ?S_BadStep_FieldError ?S_BadWidth_FieldError ?S_TooMany_FieldError ?gc_MOST_STEPS ?gc_WIDEST
    (case aC => k_is); (case a_Field___init__ => k_is); (case i_Field___init__ => k_is); (case l_Field___init__ => k_is); (case c_Field___init__ => k_is); (case k_Field___init__ => k_is); (case a__law_cell_at => k_is); (case l__law_cell_at => k_is)
    (case c__law_cell_at => k_is); (case k__law_cell_at => k_is); (case a__law_next => k_is); (case l__law_next => k_is); (case c__law_next => k_is); (case k__law_next => k_is); (case a__law_number => k_is); (case l__law_number => k_is)
    (case c__law_number => k_is); (case k__law_number => k_is); (case a__law_steps => k_is); (case l__law_steps => k_is); (case c__law_steps => k_is); (case k__law_steps => k_is); (case a__law_which => k_is); (case l__law_which => k_is)
    (case c__law_which => k_is); (case k__law_which => k_is); (case a__law_due => k_is); (case l__law_due => k_is); (case c__law_due => k_is); (case k__law_due => k_is); (case a__law_asked => k_is); (case l__law_asked => k_is)
    (case c__law_asked => k_is); (case k__law_asked => k_is); (case a__law_spoilt => k_is); (case l__law_spoilt => k_is); (case c__law_spoilt => k_is); (case k__law_spoilt => k_is); (case a_law => k_is); (case l_law => k_is)
    (case c_law => k_is); (case k_law => k_is); (case pg => k_is); (case hd => k_is); (case po => k_is); (case sa => k_is); (case mk => k_is); (case kc => k_is)
    (case nW => k_is); (case nS => k_is); (case z_len => k_is); (case z_zip => k_is); (case z_tuple => k_is); (case z_list => k_is); (case z_sum => k_is); (case z_abs => k_is)
    (case z_int => k_is); (case z_bool => k_is); (case z_str => k_is); (case z_range => k_is); (case z_enumerate => k_is); (case z_isinstance => k_is); (case z_all => k_is); (case z_max => k_is)
    (case z_min => k_is); (case z_reversed => k_is); (case eg_BadStep => k_is); (case ex_BadStep => k_exc); (case ek_BadStep => k_is); (case eb_BadStep => k_is); (case et_BadStep => k_is); (case ed_BadStep => k_is)
    (case eg_BadWidth => k_is); (case ex_BadWidth => k_exc); (case ek_BadWidth => k_is); (case eb_BadWidth => k_is); (case et_BadWidth => k_is); (case ed_BadWidth => k_is); (case eg_FieldError => k_is); (case ex_FieldError => k_exc)
    (case ek_FieldError => k_is); (case eb_FieldError => k_is); (case et_FieldError => k_is); (case ed_FieldError => k_is); (case eg_NoField => k_is); (case ex_NoField => k_exc); (case ek_NoField => k_is); (case eb_NoField => k_is)
    (case et_NoField => k_is); (case ed_NoField => k_is); (case eg_TooMany => k_is); (case ex_TooMany => k_exc); (case ek_TooMany => k_is); (case eb_TooMany => k_is); (case et_TooMany => k_is); (case ed_TooMany => k_is)
    (case eg_Unlike => k_is); (case ex_Unlike => k_exc); (case ek_Unlike => k_is); (case eb_Unlike => k_is); (case et_Unlike => k_is); (case ed_Unlike => k_is); (case I_BadStep_BadStep => first | rfl | k_is); (case I_BadStep_BadWidth => first | rfl | k_is)
    (case I_BadStep_NoField => first | rfl | k_is); (case I_BadStep_TooMany => first | rfl | k_is); (case I_BadStep_Unlike => first | rfl | k_is); (case I_BadStep_ValueError => first | rfl | k_is); (case I_BadWidth_BadStep => first | rfl | k_is); (case I_BadWidth_BadWidth => first | rfl | k_is); (case I_BadWidth_NoField => first | rfl | k_is); (case I_BadWidth_TooMany => first | rfl | k_is)
    (case I_BadWidth_Unlike => first | rfl | k_is); (case I_BadWidth_ValueError => first | rfl | k_is); (case I_TooMany_BadStep => first | rfl | k_is); (case I_TooMany_BadWidth => first | rfl | k_is); (case I_TooMany_NoField => first | rfl | k_is); (case I_TooMany_TooMany => first | rfl | k_is); (case I_TooMany_Unlike => first | rfl | k_is); (case I_TooMany_ValueError => first | rfl | k_is)
    (case yg_BadStep => first | rfl | k_is); (case yk_BadStep => first | rfl | k_is); (case ya_BadStep => first | rfl | k_is); (case ym_BadStep => first | rfl | k_is); (case yg_BadWidth => first | rfl | k_is); (case yk_BadWidth => first | rfl | k_is); (case ya_BadWidth => first | rfl | k_is); (case ym_BadWidth => first | rfl | k_is)
    (case yg_TooMany => first | rfl | k_is); (case yk_TooMany => first | rfl | k_is); (case ya_TooMany => first | rfl | k_is); (case ym_TooMany => first | rfl | k_is); (case yn => first | rfl | k_is); (case yt => first | rfl | k_is); (case z_ValueError => k_is); (case S_BadStep_FieldError => first | rfl | k_is)
    (case S_BadWidth_FieldError => first | rfl | k_is); (case S_TooMany_FieldError => first | rfl | k_is); (case gc_MOST_STEPS => k_is); (case gc_WIDEST => k_is)
