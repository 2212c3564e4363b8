import PyProof.Rows.All
import HandS.ReplaceList
import HandS.ReplaceLit
import KE.GoesRaise
import HandS.HotCalls
import HandS.ExcIs
import Wide.FinOn
import OpenK.AllK
import Wide.All
import HandS.Rev
import HandS.ForMost
import HandS.Evl
import HandS.ForExc
import HandS.Zip
import HandS.IsInst
import HandS.Wide
import HandS.Style
import HandS.TupAny
import HandS.More
import HandS.Conv
import HandS.Walk
import HandS.SetFor
import KE.GoesNew
import KE.GoesMore
import PySem.Challenge.RW_stepfield_k03_texts_refused
set_option Elab.async false
set_option linter.all false
set_option maxRecDepth 100000
set_option maxHeartbeats 4000000
namespace SF
open PySem PySem.Spec PyProof.Rows L2
def ZT (H : Hp) (a : Addr) (xs : List V) : Prop := ∃ o : Obj, H a = some (.frz o (.tup xs)) ∧ o.dict = none
theorem ZT.sq {K : PySem.W.Frag} {H : Hp} {a : Addr} {xs : List V} (h : ZT H a xs) : SqT K H a xs := let ⟨o, e, _⟩ := h; .inl (.inr ⟨o, e⟩)
def NewZ (H : Hp) (xs : List V) (Q : VK) : Prop := ∀ (p : Addr) (o : Obj), H p = none → o.dict = none → Q (.ref p) (upd H p (.frz o (.tup xs)))
section
variable {X : Cx} {pins : List (Addr × Obj)} {σ : L2.St} {H : Hp} {s : Shared}
theorem laidZ {its : List Value} {xs : List V} {t' : Nat} (I : Inv X pins σ H s) (hz : xs.length ≤ sizeLine) (r : Vals xs its) :
    Inv X pins σ (upd H s.heap.objs.size (.frz { cls := .type "tuple", data := .seq its.toArray } (.tup xs))) { s with heap := s.heap.push { cls := .type "tuple", data := .seq its.toArray }, toks := t' } :=
  I.laid (t' := t') (fun b o e => Heap.get?_push_of_some _ e) (Nat.le_refl _) ⟨Heap.get?_push_size _ rfl, hz, its, r, ⟨_, Heap.get?_push_size _ rfl, rfl, _, rfl⟩⟩
def tTupZ (t : TA) : TE := fun σ H Q => t σ H fun xs H1 => xs.length ≤ sizeLine ∧ NewZ H1 xs Q
theorem pe_tupZ {es : List Expr} {t : TA} {pos : Pos} {x1} (h : PA X es t) : PE X (.Tuple es x1 pos) (tTupZ t) := by
  refine ⟨fun pins s σ H Q I hq => ?_⟩
  refine wpAny_Tuple_spliced (thn (h.run pos pins s σ H _ I hq) fun us s1 ⟨xs, H1, I1, r, z, q⟩ => ⟨by rw [← r.length]; exact z, ?_⟩)
  exact ⟨.ref s1.heap.objs.size, _, laidZ (t' := s1.toks) I1 z r, rfl, q _ _ (I1.hok.fresh (Nat.le_refl _)) rfl⟩
def rTupleOf (K : PySem.W.Frag) : List V → Hp → VK → Prop := fun xs H Q => ∃ p ys, xs = [.ref p] ∧ ((SqL K H p ys ∧ NewZ H ys Q) ∨ (SqT K H p ys ∧ Q (.ref p) H))
theorem call_tupleOf : CallR X (.type "tuple") (rTupleOf X.K) := by
  intro pins s σ H xs us Q I r h
  obtain ⟨p, ys, rfl, h⟩ := h
  obtain ⟨u, rfl, rx⟩ := vals1 r
  cases rx
  rcases h with ⟨hq, q⟩ | ⟨hq, q⟩
  · obtain ⟨its, r', pl, hz⟩ := I.list hq
    have hlen := r'.length
    refine call_tuple_list pl.isList (fun h' kp => ?_) (by simp only [List.size_toArray] <;> omega)
    have I1 : Inv X pins σ H { s with heap := h' } := I.kept (t' := s.toks) kp
    exact ⟨.ref h'.objs.size, _, laidZ (t' := s.toks) I1 hz r', rfl, q _ _ (I1.hok.fresh (Nat.le_refl _)) rfl⟩
  · obtain ⟨its, r', pl, hz⟩ := I.tuple hq
    exact call_tuple_same pl ⟨.ref p, H, I, rfl, q⟩
def rCatZ (K : PySem.W.Frag) : R2 := fun x y H Q => ∃ a b xs ys, x = .ref a ∧ y = .ref b ∧ SqT K H a xs ∧ SqT K H b ys ∧ xs.length + ys.length ≤ sizeLine ∧
  (xs = [] → Q (.ref b) H) ∧ (xs ≠ [] → ys = [] → Q (.ref a) H) ∧ (xs ≠ [] → ys ≠ [] → NewZ H (xs ++ ys) Q)
theorem op_catZ : OpR X (binaryOp .Add) (rCatZ X.K) := by
  intro pins s σ H x y v u Q I rx ry h
  obtain ⟨a, b, xs, ys, rfl, rfl, ha, hb, hz, q0, q1, q2⟩ := h
  cases rx
  cases ry
  obtain ⟨its, r1, p1, _⟩ := I.tuple ha
  obtain ⟨its2, r2, p2, _⟩ := I.tuple hb
  by_cases hx : xs = []
  · subst hx
    cases r1
    exact cat_tup0 p1 p2 ⟨.ref b, H, I, rfl, q0 rfl⟩
  · refine HT.cat_tup p1 p2 (fun z => hx (r1.nil_iff.mp z)) (fun z => ⟨.ref a, H, I, rfl, q1 hx (r2.nil_iff.mp z)⟩) (fun z => ?_) (by rw [← r1.length, ← r2.length]; exact hz)
    exact ⟨.ref s.heap.objs.size, _, laidZ (t' := s.toks) I (by rw [List.length_append]; exact hz) (r1.append r2), rfl, q2 hx (fun w => z (r2.nil_iff.mpr w)) _ _ (I.hok.fresh (Nat.le_refl _)) rfl⟩
def rSlZ (K : PySem.W.Frag) : V → Option Int → Option Int → Hp → VK → Prop := fun x lo hi H Q => ∃ a xs, x = .ref a ∧ SqT K H a xs ∧
  (HT.sIx xs.length 0 lo = 0 ∧ HT.sIx xs.length xs.length hi = xs.length → Q (.ref a) H) ∧ (¬ (HT.sIx xs.length 0 lo = 0 ∧ HT.sIx xs.length xs.length hi = xs.length) → NewZ H (cutV xs lo hi) Q)
theorem sl_tupZ : SlR X (rSlZ X.K) := by
  intro pins s σ H x v vl vu lo hi sl Q I rx hs pl pu h
  obtain ⟨a, xs, rfl, hx, q1, q2⟩ := h
  cases rx
  obtain ⟨its, r, ht, hz⟩ := I.tuple hx
  have hlen : its.toArray.size = xs.length := by rw [List.size_toArray]; exact r.length.symm
  refine ⟨"tuple", _, PyProof.Rows.slot_tuple_getitem.lookup, ht.typeIs, ?_⟩
  by_cases hw : HT.sIx xs.length 0 lo = 0 ∧ HT.sIx xs.length xs.length hi = xs.length
  · exact getItem_tuple_whole ht hs pl pu (by rw [hlen]; exact hw) ⟨.ref a, H, I, rfl, q1 hw⟩
  · refine HT.getItem_tuple_cut ht hs pl pu (by rw [hlen]; exact hw) ?_ (by rw [hlen]; exact hz)
    rw [hlen]
    exact ⟨.ref s.heap.objs.size, _, laidZ (t' := s.toks) I (Nat.le_trans (cutV_length xs lo hi) hz) ((r.drop (HT.sIx xs.length 0 lo)).take (HT.sIx xs.length xs.length hi - HT.sIx xs.length 0 lo)), rfl, q2 hw _ _ (I.hok.fresh (Nat.le_refl _)) rfl⟩
def tBMZ (r : V → List V → Hp → VK → Prop) (to : TE) (t : TA) : TE := fun σ H Q => to σ H fun x H1 => (∃ a xs, x = .ref a ∧ ZT H1 a xs) ∧ t σ H1 fun xs H2 => r x xs H2 Q
theorem pe_bmZ {o e : Expr} {es : List Expr} {to : TE} {t : TA} {name : Str} {apos cpos : Pos} {id : String} {r : V → List V → Hp → VK → Prop} (slot : Slot "tuple" name id) (hty : typeOf (.builtin id) = pure (.type "method_descriptor")) (hm : MtR X id r) (ho : PE X o to) (ha : PA X (e :: es) t)
    (hbase : attributeBase o name X.env (eval o X.env) = eval o X.env := by rfl)
    (hfew : ((backTo cpos (starEach (e :: es) X.env)).all (fun x => !x.1) && (backToKw cpos (keywordEach [] X.env)).all (fun x => x.1.isSome)
      && decide ((e :: es).length + ([] : List Keyword).length + (if ([] : List Keyword).isEmpty then 0 else 1) < 30)) = true := by rfl)
    (hline : (apos.endLine == cpos.line) = true := by rfl) (hs : starEach (e :: es) X.env = (false, eval e X.env) :: starEach es X.env := by rfl) (hplain : (backTo cpos (starEach es X.env)).any (·.1) = false := by rfl) :
    PE X (.Call (.Attribute o name apos) (e :: es) [] cpos) (tBMZ r to t) := by
  refine ⟨fun pins s σ H Q I h => ?_⟩
  refine wpAny_Call_method_late hbase hfew hline rfl (thn (ho.run pins s σ H _ I h) fun v s1 ⟨x, H1, I1, r1, ty, q1⟩ => ?_)
  obtain ⟨a, xs, rfl, ob, hz, hd⟩ := ty
  cases r1
  obtain ⟨e1, hl, its, rv, p⟩ := I1.hok a _ hz
  refine ⟨"tuple", id, PySem.F.plainAttrs_tuple, slot, hty, p.typeIs, fun b eb => ?_, ?_⟩
  · cases eb
    exact ⟨ob, e1, hd⟩
  have hA := ha.run cpos pins s1 σ H1 _ I1 q1
  rw [hs] at hA ⊢
  refine Calls.callWith_builtin (by show (false || (backTo cpos (starEach es X.env)).any (·.1)) = false; rw [hplain] <;> rfl) (Calls.evalArgs_plain ?_)
  exact thn hA fun us s2 ⟨vs, H2, I2, r2, q2⟩ => hm pins s2 σ H2 (.ref a) vs (.ref a) us Q I2 rfl r2 q2
def rCntT (K : PySem.W.Frag) : V → List V → Hp → VK → Prop := fun x xs H Q => ∃ (p : Addr) (ns : List Int) (k : Int), x = .ref p ∧ xs = [.int k] ∧ SqT K H p (ns.map V.int) ∧ Q (.int (ns.count k : Nat)) H
theorem mt_tcount : MtR X "tuple.count" (rCntT X.K) := by
  intro pins s σ H x xs v us Q I rx rxs h
  obtain ⟨p, ns, k, rfl, rfl, hs, q⟩ := h
  cases rx
  obtain ⟨u, rfl, ru⟩ := rxs.one
  obtain ⟨t, rfl⟩ := ru
  obtain ⟨its, rv, ⟨⟨cls, dd, data, sl⟩, ho, hc, n, hd⟩, hlen⟩ := I.tuple hs
  simp only at hc hd
  subst hc hd
  have hi := ints_of_vals rv
  refine call_meets PySem.F.slot_tuple_count ⟨_, ho, rfl⟩ PySem.F.entry_tuple_count (PySem.F.args_tuple_count_2 _ _)
    (SeqAt.tuple_countAt p its.toArray n dd sl (.int k t) (eqk k)) ⟨ho, fun y hy => (eqk_gives hi y (by simpa using hy)).at _ _, ?_⟩
  have ec : its.toArray.toList.countP (eqk k) = ns.count k := eqk_count hi
  refine ⟨.int (ns.count k : Nat), H, I.tok _, ⟨s.toks, ?_⟩, q⟩
  show Value.int ((its.toArray.toList.countP (eqk k) : Nat) : Int) s.toks = Value.int ((ns.count k : Nat) : Int) s.toks
  rw [ec]
end
mutual
inductive Dd (K : PySem.W.Frag) (H : Hp) : V → PyData → Prop
  | non : Dd K H .non .none
  | bl (b : Bool) : Dd K H (.bl b) (.bool b)
  | int (i : Int) : Dd K H (.int i) (.int i)
  | str (x : Str) : Dd K H (.str x) (.str x)
  | lst {a : Addr} {xs : List V} {ds : List PyData} : SqL K H a xs → DdAll K H xs ds → Dd K H (.ref a) (.list ds)
  | tup {a : Addr} {xs : List V} {ds : List PyData} : ZT H a xs → DdAll K H xs ds → Dd K H (.ref a) (.tuple ds)
inductive DdAll (K : PySem.W.Frag) (H : Hp) : List V → List PyData → Prop
  | nil : DdAll K H [] []
  | cons {v : V} {vs : List V} {d : PyData} {ds : List PyData} : Dd K H v d → DdAll K H vs ds → DdAll K H (v :: vs) (d :: ds)
end
mutual
theorem Dd.dp {K : PySem.W.Frag} {H : Hp} : ∀ (d : PyData) (v : V), Dd K H v d → Dp K H v d
  | .none, _, h => by cases h; exact .non
  | .bool b, _, h => by cases h; exact .bl b
  | .int i, _, h => by cases h; exact .int i
  | .str x, _, h => by cases h; exact .str x
  | .list ds, _, h => by
    cases h with
    | lst hs ha => exact .lst hs (DdAll.dp ds _ ha)
  | .tuple ds, _, h => by
    cases h with
    | tup hs ha => exact .tup hs.sq (DdAll.dp ds _ ha)
  | .dict _, _, h => by cases h
theorem DdAll.dp {K : PySem.W.Frag} {H : Hp} : ∀ (ds : List PyData) (vs : List V), DdAll K H vs ds → DpAll K H vs ds
  | [], _, h => by cases h; exact .nil
  | d :: ds, _, h => by
    cases h with
    | cons h1 h2 => exact .cons (Dd.dp d _ h1) (DdAll.dp ds _ h2)
end
end SF
namespace SF
open PySem PySem.Spec PyProof.Rows L2
abbrev Ex (H H' : Hp) : Prop := Evl.Ex H H'
theorem ex_refl {H : Hp} : Ex H H := Evl.Ex.refl H
theorem ex_tr {H H1 H2 : Hp} (a : Ex H H1) (b : Ex H1 H2) : Ex H H2 := Evl.Ex.trans a b
theorem ex_new {H : Hp} {p : Addr} {o : HO} (h : H p = none) : Ex H (upd H p o) := Evl.Ex.new h
theorem ex_back {H H' : Hp} {p : Addr} (e : Ex H H') (h : H' p = none) : H p = none := Evl.fresh_back e h
theorem zt_up {H H' : Hp} {a : Addr} {xs : List V} (e : Ex H H') (h : ZT H a xs) : ZT H' a xs := let ⟨o, h1, h2⟩ := h; ⟨o, e a _ h1, h2⟩
mutual
theorem dp_mono {K : PySem.W.Frag} {H H' : Hp} (e : Ex H H') : ∀ (d : PyData) (v : V), Dd K H v d → Dd K H' v d
  | .none, _, h => by cases h; exact .non
  | .bool b, _, h => by cases h; exact .bl b
  | .int i, _, h => by cases h; exact .int i
  | .str x, _, h => by cases h; exact .str x
  | .list ds, _, h => by
    cases h with
    | lst hs ha => exact .lst (Evl.ex_l e hs) (dpAll_mono e ds _ ha)
  | .tuple ds, _, h => by
    cases h with
    | tup hs ha => exact .tup (zt_up e hs) (dpAll_mono e ds _ ha)
  | .dict _, _, h => by cases h
theorem dpAll_mono {K : PySem.W.Frag} {H H' : Hp} (e : Ex H H') : ∀ (ds : List PyData) (vs : List V), DdAll K H vs ds → DdAll K H' vs ds
  | [], _, h => by cases h; exact .nil
  | d :: ds, _, h => by
    cases h with
    | cons h1 h2 => exact .cons (dp_mono e d _ h1) (dpAll_mono e ds _ h2)
end
theorem Dd.up {K : PySem.W.Frag} {H H' : Hp} {v : V} {d : PyData} (h : Dd K H v d) (e : Ex H H') : Dd K H' v d := dp_mono e d v h
theorem DdAll.up {K : PySem.W.Frag} {H H' : Hp} {vs : List V} {ds : List PyData} (h : DdAll K H vs ds) (e : Ex H H') : DdAll K H' vs ds := dpAll_mono e ds vs h
mutual
def tupO : PyData → Bool
  | .none => true
  | .bool _ => true
  | .int _ => true
  | .str _ => true
  | .list _ => false
  | .tuple xs => tupOAll xs
  | .dict _ => false
def tupOAll : List PyData → Bool
  | [] => true
  | x :: xs => tupO x && tupOAll xs
end
def TEx (H H' : Hp) : Prop := ∀ a xs, ZT H a xs → ZT H' a xs
theorem tex_refl {H : Hp} : TEx H H := fun _ _ h => h
theorem tex_tr {H H1 H2 : Hp} (a : TEx H H1) (b : TEx H1 H2) : TEx H H2 := fun p xs h => b p xs (a p xs h)
theorem tex_of {H H' : Hp} (e : Ex H H') : TEx H H' := fun _ _ h => zt_up e h
theorem tex_upd {H : Hp} {l : Addr} {xs ys : List V} (h : H l = some (.lst xs)) : TEx H (upd H l (.lst ys)) := fun a zs q => by
  obtain ⟨o, q, d⟩ := q
  refine ⟨o, ?_, d⟩
  rw [upd_ne (by rintro rfl; rw [h] at q; cases q)]
  exact q
mutual
theorem dp_tex {K : PySem.W.Frag} {H H' : Hp} (e : TEx H H') : ∀ (d : PyData) (v : V), tupO d = true → Dd K H v d → Dd K H' v d
  | .none, _, _, h => by cases h; exact .non
  | .bool b, _, _, h => by cases h; exact .bl b
  | .int i, _, _, h => by cases h; exact .int i
  | .str x, _, _, h => by cases h; exact .str x
  | .list ds, _, t, h => by simp [tupO] at t
  | .tuple ds, _, t, h => by
    cases h with
    | tup hs ha => exact .tup (e _ _ hs) (dpAll_tex e ds _ (by simpa [tupO] using t) ha)
  | .dict _, _, _, h => by cases h
theorem dpAll_tex {K : PySem.W.Frag} {H H' : Hp} (e : TEx H H') : ∀ (ds : List PyData) (vs : List V), tupOAll ds = true → DdAll K H vs ds → DdAll K H' vs ds
  | [], _, _, h => by cases h; exact .nil
  | d :: ds, _, t, h => by
    have t' : tupO d = true ∧ tupOAll ds = true := by simpa [tupOAll] using t
    cases h with
    | cons h1 h2 => exact .cons (dp_tex e d _ t'.1 h1) (dpAll_tex e ds _ t'.2 h2)
end
theorem Dd.tx {K : PySem.W.Frag} {H H' : Hp} {v : V} {d : PyData} (h : Dd K H v d) (e : TEx H H') (t : tupO d = true) : Dd K H' v d := dp_tex e d v t h
theorem DdAll.tx {K : PySem.W.Frag} {H H' : Hp} {vs : List V} {ds : List PyData} (h : DdAll K H vs ds) (e : TEx H H') (t : tupOAll ds = true) : DdAll K H' vs ds := dpAll_tex e ds vs t h
theorem tupOAll_iff : ∀ {ds : List PyData}, tupOAll ds = true ↔ ∀ d ∈ ds, tupO d = true
  | [] => by simp [tupOAll]
  | d :: ds => by simp [tupOAll, tupOAll_iff (ds := ds)]
theorem DdAll.len {K : PySem.W.Frag} {H : Hp} : ∀ {vs : List V} {ds : List PyData}, DdAll K H vs ds → vs.length = ds.length
  | _, _, .nil => rfl
  | _, _, .cons _ h => by rw [List.length_cons, List.length_cons, DdAll.len h]
theorem DdAll.get {K : PySem.W.Frag} {H : Hp} : ∀ {vs : List V} {ds : List PyData} {i : Nat} {d : PyData}, DdAll K H vs ds → ds[i]? = some d → ∃ v, vs[i]? = some v ∧ Dd K H v d
  | _, _, _, _, .nil, e => by simp at e
  | _, _, 0, _, .cons h _, e => by
    obtain rfl := Option.some.inj e
    exact ⟨_, rfl, h⟩
  | _, _, i + 1, _, .cons _ h, e => by
    obtain ⟨v, e1, e2⟩ := DdAll.get (i := i) h (by simpa using e)
    exact ⟨v, by simpa using e1, e2⟩
theorem DdAll.got {K : PySem.W.Frag} {H : Hp} {vs : List V} {ds : List PyData} {i : Nat} {v : V} (h : DdAll K H vs ds) (e : vs[i]? = some v) : ∃ d, ds[i]? = some d ∧ Dd K H v d := by
  have hi := (List.getElem?_eq_some_iff.mp e).1
  have hd : ds[i]? = some (ds[i]'(by rw [← h.len]; exact hi)) := List.getElem?_eq_getElem _
  obtain ⟨w, e1, e2⟩ := h.get hd
  rw [e] at e1
  obtain rfl := Option.some.inj e1
  exact ⟨_, hd, e2⟩
theorem DdAll.set {K : PySem.W.Frag} {H : Hp} {v : V} {d : PyData} (q : Dd K H v d) : ∀ {vs : List V} {ds : List PyData} (i : Nat), DdAll K H vs ds → DdAll K H (vs.set i v) (ds.set i d)
  | _, _, _, .nil => .nil
  | _, _, 0, .cons _ h => .cons q h
  | _, _, i + 1, .cons h1 h => .cons h1 (DdAll.set q i h)
theorem DdAll.app {K : PySem.W.Frag} {H : Hp} : ∀ {vs ws : List V} {ds es : List PyData}, DdAll K H vs ds → DdAll K H ws es → DdAll K H (vs ++ ws) (ds ++ es)
  | _, _, _, _, .nil, h => h
  | _, _, _, _, .cons h1 h2, h => .cons h1 (DdAll.app h2 h)
theorem DdAll.dropN {K : PySem.W.Frag} {H : Hp} : ∀ {vs : List V} {ds : List PyData} (n : Nat), DdAll K H vs ds → DdAll K H (vs.drop n) (ds.drop n)
  | _, _, 0, h => by simpa using h
  | _, _, n + 1, .nil => by simpa using DdAll.nil
  | _, _, n + 1, .cons _ h => by simpa using DdAll.dropN n h
theorem DdAll.takeN {K : PySem.W.Frag} {H : Hp} : ∀ {vs : List V} {ds : List PyData} (n : Nat), DdAll K H vs ds → DdAll K H (vs.take n) (ds.take n)
  | _, _, 0, h => by simpa using DdAll.nil
  | _, _, n + 1, .nil => by simpa using DdAll.nil
  | _, _, n + 1, .cons h1 h => by simpa using DdAll.cons h1 (DdAll.takeN n h)
theorem DdAll.ints {K : PySem.W.Frag} {H : Hp} : ∀ (ns : List Int), DdAll K H (ns.map V.int) (ns.map PyData.int)
  | [] => .nil
  | n :: ns => .cons (.int n) (DdAll.ints ns)
theorem dp_int {K : PySem.W.Frag} {H : Hp} {v : V} {i : Int} (h : Dd K H v (.int i)) : v = .int i := by cases h; rfl
theorem dp_bl {K : PySem.W.Frag} {H : Hp} {v : V} {i : Bool} (h : Dd K H v (.bool i)) : v = .bl i := by cases h; rfl
theorem dp_str {K : PySem.W.Frag} {H : Hp} {v : V} {i : Str} (h : Dd K H v (.str i)) : v = .str i := by cases h; rfl
theorem dp_non {K : PySem.W.Frag} {H : Hp} {v : V} (h : Dd K H v .none) : v = .non := by cases h; rfl
theorem dp_ints {K : PySem.W.Frag} {H : Hp} : ∀ {ns : List Int} {vs : List V}, DdAll K H vs (ns.map PyData.int) → vs = ns.map V.int
  | [], _, h => by cases h; rfl
  | n :: ns, _, h => by
    cases h with
    | cons h1 h2 => rw [dp_int h1, dp_ints h2]; rfl
theorem dp_bls {K : PySem.W.Frag} {H : Hp} : ∀ {ns : List Bool} {vs : List V}, DdAll K H vs (ns.map PyData.bool) → vs = ns.map V.bl
  | [], _, h => by cases h; rfl
  | n :: ns, _, h => by
    cases h with
    | cons h1 h2 => rw [dp_bl h1, dp_bls h2]; rfl
theorem dp_tup {K : PySem.W.Frag} {H : Hp} {v : V} {ds : List PyData} (h : Dd K H v (.tuple ds)) : ∃ a xs, v = .ref a ∧ ZT H a xs ∧ DdAll K H xs ds := by
  cases h with
  | tup hs ha => exact ⟨_, _, rfl, hs, ha⟩
theorem dp_lst {K : PySem.W.Frag} {H : Hp} {v : V} {ds : List PyData} (h : Dd K H v (.list ds)) : ∃ a xs, v = .ref a ∧ SqL K H a xs ∧ DdAll K H xs ds := by
  cases h with
  | lst hs ha => exact ⟨_, _, rfl, hs, ha⟩
def EvD (K : PySem.W.Frag) (te : TE) (σ : L2.St) (H : Hp) (d : PyData) : Prop :=
  ∀ H1, Ex H H1 → ∀ Q : VK, (∀ v H2, Ex H1 H2 → Dd K H2 v d → Q v H2) → te σ H1 Q
def EvL (K : PySem.W.Frag) (te : TE) (σ : L2.St) (H : Hp) (ds : List PyData) : Prop :=
  ∀ H1, Ex H H1 → ∀ Q : VK, (∀ p xs H2, Ex H1 H2 → H2 p = some (.lst xs) → DdAll K H2 xs ds → Q (.ref p) H2) → te σ H1 Q
def EvF (K : PySem.W.Frag) (te : TE) (σ : L2.St) (H : Hp) (ds : List PyData) : Prop :=
  ∀ H1, Ex H H1 → ∀ Q : VK, (∀ p xs H2, H1 p = none → Ex H1 H2 → H2 p = some (.lst xs) → DdAll K H2 xs ds → Q (.ref p) H2) → te σ H1 Q
def EvV (te : TE) (σ : L2.St) (H : Hp) (v : V) : Prop := ∀ H1, Ex H H1 → ∀ Q : VK, (∀ H2, Ex H1 H2 → Q v H2) → te σ H1 Q
def EvDs (K : PySem.W.Frag) (ta : TA) (σ : L2.St) (H : Hp) (ds : List PyData) : Prop :=
  ∀ H1, Ex H H1 → ∀ Q : List V → Hp → Prop, (∀ vs H2, Ex H1 H2 → DdAll K H2 vs ds → Q vs H2) → ta σ H1 Q
def EvB (tt : TT) (σ : L2.St) (H : Hp) (b : Bool) : Prop := ∀ H1, Ex H H1 → ∀ Q : Bool → Hp → Prop, (∀ H2, Ex H1 H2 → Q b H2) → tt σ H1 Q
def EvO (K : PySem.W.Frag) (to : TO) (σ : L2.St) (H : Hp) (o : Option Int) : Prop := ∀ H1, Ex H H1 → ∀ Q : Option Int → Hp → Prop, (∀ H2, Ex H1 H2 → Q o H2) → to σ H1 Q
def RD (K : PySem.W.Frag) (r : R2) (d1 d2 d : PyData) : Prop := ∀ x y H, Dd K H x d1 → Dd K H y d2 → ∀ Q : VK, (∀ v H2, Ex H H2 → Dd K H2 v d → Q v H2) → r x y H Q
def RU (K : PySem.W.Frag) (r : V → Hp → VK → Prop) (d1 d : PyData) : Prop := ∀ x H, Dd K H x d1 → ∀ Q : VK, (∀ v H2, Ex H H2 → Dd K H2 v d → Q v H2) → r x H Q
def RC (K : PySem.W.Frag) (r : List V → Hp → VK → Prop) (ds : List PyData) (d : PyData) : Prop := ∀ vs H, DdAll K H vs ds → ∀ Q : VK, (∀ v H2, Ex H H2 → Dd K H2 v d → Q v H2) → r vs H Q
def RCF (K : PySem.W.Frag) (r : List V → Hp → VK → Prop) (ds es : List PyData) : Prop := ∀ vs H, DdAll K H vs ds → ∀ Q : VK, (∀ p xs H2, H p = none → Ex H H2 → H2 p = some (.lst xs) → DdAll K H2 xs es → Q (.ref p) H2) → r vs H Q
section
variable {K : PySem.W.Frag} {σ : L2.St} {H H' : Hp} {ta tb te tx : TE} {t u : TT} {x y z v : V} {r : R2} {d d1 d2 : PyData} {ds es : List PyData}
theorem EvD.up (h : EvD K te σ H d) (e : Ex H H') : EvD K te σ H' d := fun H1 a Q q => h H1 (ex_tr e a) Q q
theorem EvL.up (h : EvL K te σ H ds) (e : Ex H H') : EvL K te σ H' ds := fun H1 a Q q => h H1 (ex_tr e a) Q q
theorem EvF.up (h : EvF K te σ H ds) (e : Ex H H') : EvF K te σ H' ds := fun H1 a Q q => h H1 (ex_tr e a) Q q
theorem EvV.up (h : EvV te σ H v) (e : Ex H H') : EvV te σ H' v := fun H1 a Q q => h H1 (ex_tr e a) Q q
theorem EvB.up {b : Bool} (h : EvB t σ H b) (e : Ex H H') : EvB t σ H' b := fun H1 a Q q => h H1 (ex_tr e a) Q q
theorem EvDs.up {ta : TA} (h : EvDs K ta σ H ds) (e : Ex H H') : EvDs K ta σ H' ds := fun H1 a Q q => h H1 (ex_tr e a) Q q
theorem EvF.l (h : EvF K te σ H ds) : EvL K te σ H ds := fun H1 a Q q => h H1 a Q fun p xs H2 _ => q p xs H2
theorem EvL.dd (h : EvL K te σ H ds) : EvD K te σ H (.list ds) := fun H1 a Q q => h H1 a Q fun p xs H2 e hp hd => q _ H2 e (.lst (SqL.of hp) hd)
theorem EvF.dd (h : EvF K te σ H ds) : EvD K te σ H (.list ds) := h.l.dd
theorem EvV.dd (h : EvV te σ H v) (hd : Dd K H v d) : EvD K te σ H d := fun H1 a Q q => h H1 a Q fun H2 e => q _ H2 e (hd.up (ex_tr a e))
theorem EvD.to (h : EvD K te σ H d) (e : d = d1) : EvD K te σ H d1 := e ▸ h
theorem EvB.to {a b : Bool} (h : EvB t σ H a) (e : a = b) : EvB t σ H b := e ▸ h
theorem EvF.to (h : EvF K te σ H ds) (e : ds = es) : EvF K te σ H es := e ▸ h
theorem ev_v (h : σ[i]? = some (some v)) : EvV (tVar i) σ H v := fun H1 _ _ q => ⟨v, h, q H1 ex_refl⟩
theorem ev_var {i : Nat} (h : σ[i]? = some (some v)) (hd : Dd K H v d) : EvD K (tVar i) σ H d := (ev_v h).dd hd
theorem ev_varI {i : Nat} {n : Int} (h : σ[i]? = some (some (.int n))) : EvD K (tVar i) σ H (.int n) := ev_var h (.int n)
theorem ev_varB {i : Nat} {n : Bool} (h : σ[i]? = some (some (.bl n))) : EvD K (tVar i) σ H (.bool n) := ev_var h (.bl n)
theorem ev_varS {i : Nat} {n : Str} (h : σ[i]? = some (some (.str n))) : EvD K (tVar i) σ H (.str n) := ev_var h (.str n)
theorem ev_varN {i : Nat} (h : σ[i]? = some (some .non)) : EvD K (tVar i) σ H .none := ev_var h .non
theorem el_var {i : Nat} {l : Addr} {xs : List V} (h : σ[i]? = some (some (.ref l))) (hl : H l = some (.lst xs)) (hd : DdAll K H xs ds) : EvL K (tVar i) σ H ds := fun H1 e Q q =>
  ⟨_, h, q l xs H1 ex_refl (e l _ hl) (hd.up e)⟩
theorem ev_cI {n : Int} : EvD K (tC (.int n)) σ H (.int n) := fun H1 _ _ q => q _ H1 ex_refl (.int n)
theorem ev_cB {n : Bool} : EvD K (tC (.bl n)) σ H (.bool n) := fun H1 _ _ q => q _ H1 ex_refl (.bl n)
theorem ev_cS {n : Str} : EvD K (tC (.str n)) σ H (.str n) := fun H1 _ _ q => q _ H1 ex_refl (.str n)
theorem ev_cN : EvD K (tC .non) σ H .none := fun H1 _ _ q => q _ H1 ex_refl .non
theorem ev_op (ha : EvD K ta σ H d1) (hb : EvD K tb σ H d2) (hr : RD K r d1 d2 d) : EvD K (tOp r ta tb) σ H d := fun H1 e Q q =>
  ha H1 e _ fun x H2 e2 hx => hb H2 (ex_tr e e2) _ fun y H3 e3 hy => hr x y H3 (hx.up e3) hy Q fun v H4 e4 hv => q v H4 (ex_tr e2 (ex_tr e3 e4)) hv
theorem ev_un {r : V → Hp → VK → Prop} (ha : EvD K ta σ H d1) (hr : RU K r d1 d) : EvD K (tUn r ta) σ H d := fun H1 e Q q =>
  ha H1 e _ fun x H2 e2 hx => hr x H2 hx Q fun v H3 e3 hv => q v H3 (ex_tr e2 e3) hv
theorem rd_orL {r s : R2} (h : RD K r d1 d2 d) : RD K (fun x y H Q => r x y H Q ∨ s x y H Q) d1 d2 d := fun x y H hx hy Q q => .inl (h x y H hx hy Q q)
theorem rd_orR {r s : R2} (h : RD K s d1 d2 d) : RD K (fun x y H Q => r x y H Q ∨ s x y H Q) d1 d2 d := fun x y H hx hy Q q => .inr (h x y H hx hy Q q)
theorem rd_I0 {g : Int → Int → Int} {i j : Int} : RD K (rI0 fun i j => .int (g i j)) (.int i) (.int j) (.int (g i j)) := fun x y H hx hy Q q => by
  cases hx; cases hy; exact ⟨i, j, rfl, rfl, q _ H ex_refl (.int _)⟩
theorem rd_B0 {g : Int → Int → Bool} {i j : Int} : RD K (rI0 fun i j => .bl (g i j)) (.int i) (.int j) (.bool (g i j)) := fun x y H hx hy Q q => by
  cases hx; cases hy; exact ⟨i, j, rfl, rfl, q _ H ex_refl (.bl _)⟩
theorem rd_I {C : Int → Int → Prop} {g : Int → Int → Int} {i j : Int} (hc : C i j) : RD K (rI C fun i j => .int (g i j)) (.int i) (.int j) (.int (g i j)) := fun x y H hx hy Q q => by
  cases hx; cases hy; exact ⟨i, j, rfl, rfl, hc, q _ H ex_refl (.int _)⟩
theorem ru_neg {i : Int} : RU K (rU fun i => .int (-i)) (.int i) (.int (-i)) := fun x H hx Q q => by
  cases hx; exact ⟨i, rfl, q _ H ex_refl (.int _)⟩
theorem rd_eq (s1 : SeqAt.shaped d1 = true) (s2 : SeqAt.shaped d2 = true) : RD K (rEqD K) d1 d2 (.bool (PyData.eqv d1 d2)) := fun x y H hx hy Q q => ⟨d1, d2, Dd.dp _ _ hx, Dd.dp _ _ hy, s1, s2, q _ H ex_refl (.bl _)⟩
theorem rd_ne (s1 : SeqAt.shaped d1 = true) (s2 : SeqAt.shaped d2 = true) : RD K (rNeD K) d1 d2 (.bool (!PyData.eqv d1 d2)) := fun x y H hx hy Q q => ⟨d1, d2, Dd.dp _ _ hx, Dd.dp _ _ hy, s1, s2, q _ H ex_refl (.bl _)⟩
theorem rd_isN : RD K (fun x y H Q => y = .non ∧ Q (.bl (decide (x = .non))) H) .none .none (.bool true) := fun x y H hx hy Q q => by
  cases hx; cases hy; exact ⟨rfl, q _ H ex_refl (.bl _)⟩
theorem atI_dp {xs : List V} {i : Int} {n : Nat} (hi : i = (n : Int)) (hx : DdAll K H xs ds) (hd : ds[n]? = some d) : ∃ v, atI xs i = some v ∧ Dd K H v d := by
  subst hi
  obtain ⟨v, e1, e2⟩ := hx.get hd
  exact ⟨v, atI_nat e1, e2⟩
theorem rd_ixL {i : Int} {n : Nat} (hi : i = (n : Int)) (hd : ds[n]? = some d) : RD K (rIx K) (.list ds) (.int i) d := fun x y H hx hy Q q => by
  cases hy
  obtain ⟨a, xs, rfl, hs, ha⟩ := dp_lst hx
  obtain ⟨v, e1, e2⟩ := atI_dp hi ha hd
  exact .inl ⟨a, xs, i, v, rfl, rfl, hs, e1, q v H ex_refl e2⟩
theorem rd_ixT {i : Int} {n : Nat} (hi : i = (n : Int)) (hd : ds[n]? = some d) : RD K (rIx K) (.tuple ds) (.int i) d := fun x y H hx hy Q q => by
  cases hy
  obtain ⟨a, xs, rfl, hs, ha⟩ := dp_tup hx
  obtain ⟨v, e1, e2⟩ := atI_dp hi ha hd
  exact .inr (.inl ⟨a, xs, i, v, rfl, rfl, hs.sq, e1, q v H ex_refl e2⟩)
theorem ea_nil : EvDs K tNil σ H [] := fun H1 _ _ q => q _ H1 ex_refl .nil
theorem ea_cons {tr : TA} (h : EvD K ta σ H d) (hr : EvDs K tr σ H ds) : EvDs K (tCons ta tr) σ H (d :: ds) := fun H1 e _ q =>
  h H1 e _ fun v H2 e2 hv => hr H2 (ex_tr e e2) _ fun vs H3 e3 hvs => q _ H3 (ex_tr e2 e3) (.cons (hv.up e3) hvs)
theorem ev_tup {ta : TA} (h : EvDs K ta σ H ds) (hl : ds.length ≤ 100000) : EvD K (tTupZ ta) σ H (.tuple ds) := fun H1 e _ q =>
  h H1 e _ fun vs H2 e2 hvs => ⟨Evl.sz_of (by rw [hvs.len]; exact hl), fun p o hp ho => q _ _ (ex_tr e2 (ex_new hp)) (.tup ⟨o, upd_same, ho⟩ (hvs.up (ex_new hp)))⟩
theorem ef_lst {ta : TA} (h : EvDs K ta σ H ds) (hl : ds.length ≤ 100000) : EvF K (tLst ta) σ H ds := fun H1 e _ q =>
  h H1 e _ fun vs H2 e2 hvs => ⟨Evl.sz_of (by rw [hvs.len]; exact hl), fun p hp => q p _ _ (ex_back e2 hp) (ex_tr e2 (ex_new hp)) upd_same (hvs.up (ex_new hp))⟩
theorem ev_cb {r : List V → Hp → VK → Prop} {ta : TA} (h : EvDs K ta σ H ds) (hr : RC K r ds d) : EvD K (tCB r ta) σ H d := fun H1 e Q q =>
  h H1 e _ fun vs H2 e2 hvs => hr vs H2 hvs Q fun v H3 e3 hv => q v H3 (ex_tr e2 e3) hv
theorem ef_cb {r : List V → Hp → VK → Prop} {ta : TA} (h : EvDs K ta σ H ds) (hr : RCF K r ds es) : EvF K (tCB r ta) σ H es := fun H1 e Q q =>
  h H1 e _ fun vs H2 e2 hvs => hr vs H2 hvs Q fun p xs H3 hp e3 h1 h2 => q p xs H3 (ex_back e2 hp) (ex_tr e2 e3) h1 h2
def SpD (K : PySem.W.Frag) (sp : Sp) (ds : List PyData) (d : PyData) : Prop := ∀ vs H, DdAll K H vs ds → ∀ (Q : VK) (E : XK), (∀ v H2, Ex H H2 → Dd K H2 v d → Q v H2) → sp vs H Q E
def SpF (K : PySem.W.Frag) (sp : Sp) (ds es : List PyData) : Prop := ∀ vs H, DdAll K H vs ds → ∀ (Q : VK) (E : XK), (∀ p xs H2, H p = none → Ex H H2 → H2 p = some (.lst xs) → DdAll K H2 xs es → Q (.ref p) H2) → sp vs H Q E
theorem ev_call {sp : Sp} {E : XK} {ta : TA} (h : EvDs K ta σ H ds) (hs : SpD K sp ds d) : EvD K (tCall sp [] E ta) σ H d := fun H1 e Q q =>
  h H1 e _ fun vs H2 e2 hvs => by
    rw [List.append_nil]
    exact hs vs H2 hvs Q E fun v H3 e3 hv => q v H3 (ex_tr e2 e3) hv
theorem ef_call {sp : Sp} {E : XK} {ta : TA} (h : EvDs K ta σ H ds) (hs : SpF K sp ds es) : EvF K (tCall sp [] E ta) σ H es := fun H1 e Q q =>
  h H1 e _ fun vs H2 e2 hvs => by
    rw [List.append_nil]
    exact hs vs H2 hvs Q E fun p xs H3 hp e3 h1 h2 => q p xs H3 (ex_back e2 hp) (ex_tr e2 e3) h1 h2
theorem rc_abs {i : Int} : RC K (fun xs H Q => ∃ i, xs = [.int i] ∧ Q (.int (if i < 0 then -i else i)) H) [.int i] (.int (if i < 0 then -i else i)) := fun vs H hv Q q => by
  cases hv with
  | cons h1 h2 => cases h1; cases h2; exact ⟨i, rfl, q _ H ex_refl (.int _)⟩
theorem rc_lenL : RC K (fun xs H Q => ∃ p ys, xs = [.ref p] ∧ (SqL K H p ys ∨ SqT K H p ys) ∧ Q (.int ys.length) H) [.list ds] (.int ds.length) := fun vs H hv Q q => by
  cases hv with
  | cons h1 h2 =>
    cases h2
    obtain ⟨a, xs, rfl, hs, ha⟩ := dp_lst h1
    refine ⟨a, xs, rfl, .inl hs, ?_⟩
    rw [ha.len]
    exact q _ H ex_refl (.int _)
theorem rc_lenT : RC K (fun xs H Q => ∃ p ys, xs = [.ref p] ∧ (SqL K H p ys ∨ SqT K H p ys) ∧ Q (.int ys.length) H) [.tuple ds] (.int ds.length) := fun vs H hv Q q => by
  cases hv with
  | cons h1 h2 =>
    cases h2
    obtain ⟨a, xs, rfl, hs, ha⟩ := dp_tup h1
    refine ⟨a, xs, rfl, .inr hs.sq, ?_⟩
    rw [ha.len]
    exact q _ H ex_refl (.int _)
theorem rc_sum {ns : List Int} : RC K (rSum K) [.list (ns.map .int)] (.int ns.sum) := fun vs H hv Q q => by
  cases hv with
  | cons h1 h2 =>
    cases h2
    obtain ⟨a, xs, rfl, hs, ha⟩ := dp_lst h1
    rw [dp_ints ha] at hs
    exact ⟨a, ns, rfl, hs, q _ H ex_refl (.int _)⟩
theorem rc_all {ns : List Bool} : RC K (rAll K) [.list (ns.map .bool)] (.bool (ns.all id)) := fun vs H hv Q q => by
  cases hv with
  | cons h1 h2 =>
    cases h2
    obtain ⟨a, xs, rfl, hs, ha⟩ := dp_lst h1
    rw [dp_bls ha] at hs
    exact ⟨a, ns, rfl, hs, q _ H ex_refl (.bl _)⟩
theorem rc_intB {b : Bool} : RC K (fun xs H Q => (∃ i, xs = [.int i] ∧ Q (.int i) H) ∨ ∃ k, xs = [.bl k] ∧ Q (.int (b2i k)) H) [.bool b] (.int (b2i b)) := fun vs H hv Q q => by
  cases hv with
  | cons h1 h2 => cases h1; cases h2; exact .inr ⟨b, rfl, q _ H ex_refl (.int _)⟩
def rListOf (K : PySem.W.Frag) : List V → Hp → VK → Prop := fun xs H Q => ∃ p ys, xs = [.ref p] ∧ (SqL K H p ys ∨ SqT K H p ys) ∧ ∀ l, H l = none → Q (.ref l) (upd H l (.lst ys))
theorem rc_tupleL : RC K (rTupleOf K) [.list ds] (.tuple ds) := fun vs H hv Q q => by
  cases hv with
  | cons h1 h2 =>
    cases h2
    obtain ⟨a, xs, rfl, hs, ha⟩ := dp_lst h1
    exact ⟨a, xs, rfl, .inl ⟨hs, fun l o hl ho => q _ _ (ex_new hl) (.tup ⟨o, upd_same, ho⟩ (ha.up (ex_new hl)))⟩⟩
theorem rc_tupleT : RC K (rTupleOf K) [.tuple ds] (.tuple ds) := fun vs H hv Q q => by
  cases hv with
  | cons h1 h2 =>
    cases h2
    obtain ⟨a, xs, rfl, hs, ha⟩ := dp_tup h1
    exact ⟨a, xs, rfl, .inr ⟨hs.sq, q _ H ex_refl (.tup hs ha)⟩⟩
theorem rc_listL : RCF K (rListOf K) [.list ds] ds := fun vs H hv Q q => by
  cases hv with
  | cons h1 h2 =>
    cases h2
    obtain ⟨a, xs, rfl, hs, ha⟩ := dp_lst h1
    exact ⟨a, xs, rfl, .inl hs, fun l hl => q l xs _ hl (ex_new hl) upd_same (ha.up (ex_new hl))⟩
theorem rc_listT : RCF K (rListOf K) [.tuple ds] ds := fun vs H hv Q q => by
  cases hv with
  | cons h1 h2 =>
    cases h2
    obtain ⟨a, xs, rfl, hs, ha⟩ := dp_tup h1
    exact ⟨a, xs, rfl, .inr hs.sq, fun l hl => q l xs _ hl (ex_new hl) upd_same (ha.up (ex_new hl))⟩
theorem call_listOf {X : Cx} : CallR X (.type "list") (rListOf X.K) := call_list_of
variable (K) in
theorem et_test {b : Bool} (h : EvD K te σ H (.bool b)) : EvB (tTest te) σ H b := fun H1 e _ q => h H1 e _ fun v H2 e2 hv => ⟨b, dp_bl hv, q H2 e2⟩
variable (K) in
theorem et_B {b : Bool} (h : EvD K te σ H (.bool b)) : EvB (tB te) σ H b := fun H1 e _ q => h H1 e _ fun v H2 e2 hv => ⟨b, dp_bl hv, q H2 e2⟩
theorem et_and {a b : Bool} (h1 : EvB t σ H a) (h2 : a = true → EvB u σ H b) : EvB (tAnd t u) σ H (a && b) := fun H1 e Q q => h1 H1 e _ fun H2 e2 => by
  cases a with
  | true => show u σ H2 Q; exact h2 rfl H2 (ex_tr e e2) Q fun H3 e3 => q H3 (ex_tr e2 e3)
  | false => show Q false H2; exact q H2 e2
theorem et_or {a b : Bool} (h1 : EvB t σ H a) (h2 : a = false → EvB u σ H b) : EvB (tOr t u) σ H (a || b) := fun H1 e Q q => h1 H1 e _ fun H2 e2 => by
  cases a with
  | true => show Q true H2; exact q H2 e2
  | false => show u σ H2 Q; exact h2 rfl H2 (ex_tr e e2) Q fun H3 e3 => q H3 (ex_tr e2 e3)
theorem et_not {a : Bool} (h1 : EvB t σ H a) : EvB (tNot t) σ H (!a) := fun H1 e _ q => h1 H1 e _ fun H2 e2 => q H2 e2
theorem et_yes : EvB tYes σ H true := fun H1 _ _ q => q H1 ex_refl
theorem ev_andV {a b : Bool} (h1 : EvD K ta σ H (.bool a)) (h2 : a = true → EvD K tb σ H (.bool b)) : EvD K (tAndV ta tb) σ H (.bool (a && b)) := fun H1 e Q q => h1 H1 e _ fun v H2 e2 hv => ⟨a, dp_bl hv, by
  cases a with
  | true => show tb σ H2 Q; exact h2 rfl H2 (ex_tr e e2) Q fun w H3 e3 hw => q w H3 (ex_tr e2 e3) hw
  | false => show Q (.bl false) H2; exact q _ H2 e2 (.bl _)⟩
theorem ev_orV {a b : Bool} (h1 : EvD K ta σ H (.bool a)) (h2 : a = false → EvD K tb σ H (.bool b)) : EvD K (tOrV ta tb) σ H (.bool (a || b)) := fun H1 e Q q => h1 H1 e _ fun v H2 e2 hv => ⟨a, dp_bl hv, by
  cases a with
  | true => show Q (.bl true) H2; exact q _ H2 e2 (.bl _)
  | false => show tb σ H2 Q; exact h2 rfl H2 (ex_tr e e2) Q fun w H3 e3 hw => q w H3 (ex_tr e2 e3) hw⟩
theorem ev_notV {a : Bool} (h1 : EvD K ta σ H (.bool a)) : EvD K (tNotV ta) σ H (.bool (!a)) := fun H1 e _ q => h1 H1 e _ fun v H2 e2 hv => ⟨a, dp_bl hv, q _ H2 e2 (.bl _)⟩
theorem ev_if {b : Bool} (h : EvB t σ H b) (h1 : b = true → EvD K ta σ H d) (h2 : b = false → EvD K tb σ H d) : EvD K (tIf t ta tb) σ H d := fun H1 e Q q => h H1 e _ fun H2 e2 => by
  cases b with
  | true => show ta σ H2 Q; exact h1 rfl H2 (ex_tr e e2) Q fun w H3 e3 hw => q w H3 (ex_tr e2 e3) hw
  | false => show tb σ H2 Q; exact h2 rfl H2 (ex_tr e e2) Q fun w H3 e3 hw => q w H3 (ex_tr e2 e3) hw
theorem ev_chain {r r' : R2} {tc : TE} {d3 : PyData} {a b : Bool} (ha : EvD K ta σ H d1) (hb : EvD K tb σ H d2) (hc : a = true → EvD K tc σ H d3) (h1 : RD K r d1 d2 (.bool a)) (h2 : a = true → RD K r' d2 d3 (.bool b)) :
    EvD K (tChain r r' ta tb tc) σ H (.bool (a && b)) := fun H1 e Q q =>
  ha H1 e _ fun x H2 e2 hx => hb H2 (ex_tr e e2) _ fun y H3 e3 hy => h1 x y H3 (hx.up e3) hy _ fun v H4 e4 hv => ⟨a, dp_bl hv, by
    cases a with
    | true =>
      refine iteT ?_
      exact hc rfl H4 (ex_tr e (ex_tr e2 (ex_tr e3 e4))) _ fun z H5 e5 hz => h2 rfl y z H5 (hy.up (ex_tr e4 e5)) hz Q fun w H6 e6 hw => q w H6 (ex_tr e2 (ex_tr e3 (ex_tr e4 (ex_tr e5 e6)))) hw
    | false =>
      refine iteF ?_
      exact q _ H4 (ex_tr e2 (ex_tr e3 e4)) (.bl _)⟩
variable {D : Ends} {tu tw : TS} {g : TG} {i : Nat}
theorem s_seq {t1 t2 : TS} (h : t1 { D with nx := t2 D } σ H) : tSeq t1 t2 D σ H := h
theorem s_next (q : D.nx σ H) : tNext D σ H := q
theorem s_asgD (h : EvD K te σ H d) (k : ∀ v H1, Ex H H1 → Dd K H1 v d → D.nx (σ.set i (some v)) H1) : tAsg te (gName i) D σ H := h H ex_refl _ fun v H1 e hv => k v H1 e hv
variable (K) in
theorem s_asgI {n : Int} (h : EvD K te σ H (.int n)) (k : ∀ H1, Ex H H1 → D.nx (σ.set i (some (.int n))) H1) : tAsg te (gName i) D σ H := h H ex_refl _ fun v H1 e hv => by
  have := k H1 e
  rw [dp_int hv]
  exact this
variable (K) in
theorem s_asgB {n : Bool} (h : EvD K te σ H (.bool n)) (k : ∀ H1, Ex H H1 → D.nx (σ.set i (some (.bl n))) H1) : tAsg te (gName i) D σ H := h H ex_refl _ fun v H1 e hv => by
  have := k H1 e
  rw [dp_bl hv]
  exact this
variable (K) in
theorem s_asgS {n : Str} (h : EvD K te σ H (.str n)) (k : ∀ H1, Ex H H1 → D.nx (σ.set i (some (.str n))) H1) : tAsg te (gName i) D σ H := h H ex_refl _ fun v H1 e hv => by
  have := k H1 e
  rw [dp_str hv]
  exact this
variable (K) in
theorem s_asgN (h : EvD K te σ H .none) (k : ∀ H1, Ex H H1 → D.nx (σ.set i (some .non)) H1) : tAsg te (gName i) D σ H := h H ex_refl _ fun v H1 e hv => by
  have := k H1 e
  rw [dp_non hv]
  exact this
theorem s_asgF (h : EvF K te σ H ds) (k : ∀ p xs H1, H p = none → Ex H H1 → H1 p = some (.lst xs) → DdAll K H1 xs ds → D.nx (σ.set i (some (.ref p))) H1) : tAsg te (gName i) D σ H := h H ex_refl _ k
theorem s_ret (h : EvD K te σ H d) (k : ∀ v H1, Ex H H1 → Dd K H1 v d → D.rt v H1) : tRet te D σ H := h H ex_refl _ k
theorem s_retF (h : EvF K te σ H ds) (k : ∀ p xs H1, H p = none → Ex H H1 → H1 p = some (.lst xs) → DdAll K H1 xs ds → D.rt (.ref p) H1) : tRet te D σ H := h H ex_refl _ k
theorem s_retV (h : EvV te σ H v) (k : ∀ H1, Ex H H1 → D.rt v H1) : tRet te D σ H := h H ex_refl _ k
theorem s_if {b : Bool} (h : EvB t σ H b) (h1 : b = true → ∀ H1, Ex H H1 → tu D σ H1) (h2 : b = false → ∀ H1, Ex H H1 → tw D σ H1) : tIfS t tu tw D σ H := h H ex_refl _ fun H1 e => by
  cases b with
  | true => show tu D σ H1; exact h1 rfl H1 e
  | false => show tw D σ H1; exact h2 rfl H1 e
theorem q_when {tz : TS} {b : Bool} (h : EvB t σ H b) (h1 : b = true → ∀ H1, Ex H H1 → tu { D with nx := tz D } σ H1) (h2 : b = false → ∀ H1, Ex H H1 → tz D σ H1) : tSeq (tIfS t tu tNext) tz D σ H := s_if (D := { D with nx := tz D }) h h1 h2
theorem s_drop (h : EvD K te σ H d) (k : ∀ H1, Ex H H1 → D.nx σ H1) : tDrop te D σ H := h H ex_refl _ fun _ H1 e _ => k H1 e
structure Own (K : PySem.W.Frag) (H0 H : Hp) (l : Addr) (ds : List PyData) : Prop where
  new : H0 l = none
  ex : Ex H0 H
  at_ : ∃ xs, H l = some (.lst xs) ∧ DdAll K H xs ds
  tup : tupOAll ds = true
theorem Own.mk' {H0 : Hp} {l : Addr} {xs : List V} (hn : H0 l = none) (e : Ex H0 H) (hl : H l = some (.lst xs)) (hd : DdAll K H xs ds) (ht : tupOAll ds = true) : Own K H0 H l ds := ⟨hn, e, ⟨xs, hl, hd⟩, ht⟩
theorem Own.up {H0 : Hp} {l : Addr} (o : Own K H0 H l ds) (e : Ex H H') : Own K H0 H' l ds :=
  ⟨o.new, ex_tr o.ex e, let ⟨xs, h1, h2⟩ := o.at_; ⟨xs, e l _ h1, h2.up e⟩, o.tup⟩
theorem Own.dp {H0 : Hp} {l : Addr} (o : Own K H0 H l ds) : Dd K H (.ref l) (.list ds) := let ⟨_, h1, h2⟩ := o.at_; .lst (SqL.of h1) h2
theorem Own.var {H0 : Hp} {l : Addr} (o : Own K H0 H l ds) (h : σ[i]? = some (some (.ref l))) : EvD K (tVar i) σ H (.list ds) := ev_var h o.dp
theorem Own.varL {H0 : Hp} {l : Addr} (o : Own K H0 H l ds) (h : σ[i]? = some (some (.ref l))) : EvL K (tVar i) σ H ds := let ⟨_, h1, h2⟩ := o.at_; el_var h h1 h2
theorem Own.put {H0 : Hp} {l : Addr} {xs ys : List V} {es : List PyData} (o : Own K H0 H l ds) (hl : H l = some (.lst xs)) (hy : DdAll K H ys es) (ht : tupOAll es = true) : Own K H0 (upd H l (.lst ys)) l es :=
  ⟨o.new, Evl.Ex.mut o.ex o.new, ⟨ys, upd_same, hy.tx (tex_upd hl) ht⟩, ht⟩
theorem tupOAll_set {d : PyData} (hd : tupO d = true) : ∀ {ds : List PyData} (j : Nat), tupOAll ds = true → tupOAll (ds.set j d) = true
  | [], _, h => h
  | a :: r, 0, h => by
    have h' : tupO a = true ∧ tupOAll r = true := by simpa [tupOAll] using h
    simp [tupOAll, hd, h'.2]
  | a :: r, j + 1, h => by
    have h' : tupO a = true ∧ tupOAll r = true := by simpa [tupOAll] using h
    simp [tupOAll, h'.1, tupOAll_set hd j h'.2]
theorem tupOAll_app : ∀ {ds es : List PyData}, tupOAll ds = true → tupOAll es = true → tupOAll (ds ++ es) = true
  | [], _, _, h => h
  | a :: r, es, h, h2 => by
    have h' : tupO a = true ∧ tupOAll r = true := by simpa [tupOAll] using h
    simp [tupOAll, h'.1, tupOAll_app h'.2 h2]
theorem s_setO {H0 : Hp} {l : Addr} {ti : TE} {io : Nat} {j : Int} {n : Nat} (o : Own K H0 H l ds) (h : EvD K te σ H d) (hd : tupO d = true) (ho : σ[io]? = some (some (.ref l))) (hi : EvD K ti σ H (.int j)) (hj : j = (n : Int)) (hn : n < ds.length)
    (k : ∀ H1, TEx H H1 → Own K H0 H1 l (ds.set n d) → D.nx σ H1) : tAsg te (gSub (tVar io) ti rSetL) D σ H := by
  refine h H ex_refl _ fun v H1 e1 hv => ⟨_, ho, ?_⟩
  refine hi H1 e1 _ fun w H2 e2 hw => ?_
  obtain rfl := dp_int hw
  have o2 := o.up (ex_tr e1 e2)
  obtain ⟨xs, h1, h2⟩ := o2.at_
  refine ⟨l, xs, j, n, rfl, rfl, h1, ?_, ?_⟩
  · subst hj; exact Evl.ixN_nat (by rw [h2.len]; exact hn)
  · exact k _ (tex_tr (tex_of (ex_tr e1 e2)) (tex_upd h1)) (o2.put h1 (DdAll.set (hv.up e2) n h2) (tupOAll_set hd n o.tup))
theorem s_appO {H0 : Hp} {l : Addr} {io : Nat} (o : Own K H0 H l ds) (ho : σ[io]? = some (some (.ref l))) (h : EvD K te σ H d) (hd : tupO d = true) (hz : ds.length < 100000)
    (k : ∀ H1, TEx H H1 → Own K H0 H1 l (ds ++ [d]) → D.nx σ H1) : tDrop (tBM K "list" rAppend (tVar io) (tCons te tNil)) D σ H := by
  obtain ⟨xs0, h10, h20⟩ := o.at_
  refine ⟨_, ho, Or.inl ⟨rfl, xs0, SqL.of h10⟩, ?_⟩
  refine h H ex_refl _ fun v H1 e1 hv => ?_
  have o2 := o.up e1
  obtain ⟨xs, h1, h2⟩ := o2.at_
  refine ⟨l, xs, v, rfl, rfl, h1, Evl.sz_lt (by rw [h2.len]; exact hz), ?_⟩
  exact k _ (tex_tr (tex_of e1) (tex_upd h1)) (o2.put h1 (h2.app (.cons hv .nil)) (tupOAll_app o.tup (by simp [tupOAll, hd])))
variable (K) in
theorem s_forR1 {ta : TA} {j : Nat} {n : Int} (h : EvDs K ta σ H [.int n]) (hn : n ≤ 100000) (hn0 : -100000 ≤ n) (Pv : Nat → L2.St → Hp → Prop) (h0 : ∀ H1, Ex H H1 → Pv 0 σ H1)
    (hs : ∀ (i : Nat) σ' H', (i : Int) < n → Pv i σ' H' → tu { D with nx := Pv (i + 1), ct := Pv (i + 1), bk := D.nx } (σ'.set j (some (.int (i : Int)))) H') (hd : ∀ σ' H', Pv n.toNat σ' H' → D.nx σ' H') : tFor (iRng1 ta) (gName j) tu D σ H :=
  h H ex_refl _ fun vs H1 e hv => by
    cases hv with
    | cons h1 h2 =>
      cases h1; cases h2
      exact ⟨n, rfl, by omega, by omega, for_range (lo := 0) (n := n.toNat) Pv (h0 H1 e) (fun i σ' H' hi p => by
        have e0 : (0 : Int) + (i : Int) = (i : Int) := Int.zero_add _
        show tu { D with nx := Pv (i + 1), ct := Pv (i + 1), bk := D.nx } (σ'.set j (some (.int ((0 : Int) + (i : Int))))) H'
        rw [e0]
        exact hs i σ' H' (by omega) p) hd⟩
variable (K) in
theorem s_forR2 {ta : TA} {j : Nat} {lo n : Int} (h : EvDs K ta σ H [.int lo, .int n]) (hn : -100000 ≤ lo ∧ lo ≤ 100000 ∧ -100000 ≤ n ∧ n ≤ 100000) (Pv : Nat → L2.St → Hp → Prop) (h0 : ∀ H1, Ex H H1 → Pv 0 σ H1)
    (hs : ∀ (i : Nat) σ' H', lo + (i : Int) < n → Pv i σ' H' → tu { D with nx := Pv (i + 1), ct := Pv (i + 1), bk := D.nx } (σ'.set j (some (.int (lo + (i : Int))))) H') (hd : ∀ σ' H', Pv (n - lo).toNat σ' H' → D.nx σ' H') : tFor (iRng2 ta) (gName j) tu D σ H :=
  h H ex_refl _ fun vs H1 e hv => by
    cases hv with
    | cons h1 h2 =>
      cases h2 with
      | cons h3 h4 =>
        cases h1; cases h3; cases h4
        exact ⟨lo, n, rfl, ⟨by omega, by omega, by omega, by omega⟩, for_range (lo := lo) (n := (n - lo).toNat) Pv (h0 H1 e) (fun i σ' H' hi p => hs i σ' H' (by omega) p) hd⟩
theorem s_while (W : Nat → L2.St → Hp → Prop) (m0 : Nat) (h0 : W m0 σ H)
    (hs : ∀ m σ' H', W m σ' H' → ∃ b, EvB t σ' H' b ∧ (b = true → ∀ H1, Ex H' H1 → ∃ N : L2.St → Hp → Prop, (∀ σ2 H2, N σ2 H2 → ∃ m', m' < m ∧ W m' σ2 H2) ∧ tu { D with nx := N, ct := N, bk := D.nx } σ' H1) ∧ (b = false → ∀ H1, Ex H' H1 → D.nx σ' H1)) : tWhile t tu D σ H :=
  ⟨W, ⟨m0, h0⟩, fun m σ' H' hw => by
    obtain ⟨b, hb, h1, h2⟩ := hs m σ' H' hw
    refine hb H' ex_refl _ fun H1 e => ?_
    cases b with
    | true => exact h1 rfl H1 e
    | false => exact h2 rfl H1 e⟩
end
end SF
namespace SF
open PySem PySem.Spec PyProof.Rows L2
section
variable {X : Cx}
theorem op_fdivB (hN : X.base.NoSeer) (ht : X.prog.given.tree = none) {k : Nat} (hr : Room k X.A) (hk : 32 ≤ k) (hst : X.stack = X.env :: X.outer) (hg : X.env.scope.isGenerator = false) (hc : X.env.scope.isCoroutine = false) :
    OpR X (binaryOp .FloorDiv) (rI (fun _ j => j ≠ 0) fun i j => .int (i.fdiv j)) := by
  intro pins s σ H x y v u Q I rx ry h
  obtain ⟨i, j, rfl, rfl, hj, q⟩ := h
  obtain ⟨t, rfl⟩ := rx
  obtain ⟨t', rfl⟩ := ry
  refine floordiv_int hj ⟨.int (i.fdiv j), H, I.tok _, ⟨_, rfl⟩, q⟩ (.inr ?_)
  refine PySem.PylongRoom.of I.nolimit ?_ ?_
  · have := hr.dp
    have e : Builtin.pylongFrames = 100 := rfl
    rw [e]
    omega
  · exact PySem.SeerAt.of (hN.keeps I.bk) ht (l := X.outer) (env := X.env) (by rw [← hst]; exact I.ok.frames) hg hc I.ok.blt I.ok.glob
def CMulB (i j : Int) : Prop := CMul i j ∨ i.natAbs.log2 + j.natAbs.log2 < 100000000
theorem CMulB.ok {i j : Int} (h : CMulB i j) : IntMulOk i j := by
  rcases h with h | h
  · exact h.ok
  have b : ∀ x : Int, Builtin.Int.intBits x ≤ x.natAbs.log2 + 1 := fun x => by
    unfold Builtin.Int.intBits
    split <;> omega
  have h1 := b i
  have h2 := b j
  have e : bitsLine = 134217728 := by decide
  unfold IntMulOk
  intro z
  rw [Bool.and_eq_true] at z
  have z2 := z.2
  unfold Builtin.Int.intTooBig at z2
  have z3 := of_decide_eq_true z2
  rw [e] at z3
  omega
theorem mulB_l {i j : Int} (h : -(2 ^ 64) < i ∧ i < 2 ^ 64) : CMulB i j := .inl (.inl h)
theorem mulB_r {i j : Int} (h : -(2 ^ 64) < j ∧ j < 2 ^ 64) : CMulB i j := .inl (.inr h)
theorem op_mulB : OpR X (binaryOp .Mult) (rI CMulB fun i j => .int (i * j)) := opI fun _ _ _ _ _ _ _ hc q => mul_int q hc.ok
theorem mulB_of {i j : Int} {a b : Nat} (ha : i.natAbs < 2 ^ a) (hb : j.natAbs < 2 ^ b) (h : a + b < 100000000) : CMulB i j := by
  have x : i.natAbs.log2 ≤ a := by
    by_cases z : i.natAbs = 0
    · rw [z]; exact Nat.le_trans (by decide : Nat.log2 0 ≤ 0) (Nat.zero_le _)
    · exact Nat.le_of_lt ((Nat.log2_lt z).mpr ha)
  have y : j.natAbs.log2 ≤ b := by
    by_cases z : j.natAbs = 0
    · rw [z]; exact Nat.le_trans (by decide : Nat.log2 0 ≤ 0) (Nat.zero_le _)
    · exact Nat.le_of_lt ((Nat.log2_lt z).mpr hb)
  exact .inr (by omega)
end
def SqK (K : PySem.W.Frag) (k : Bool) (H : Hp) (a : Addr) (xs : List V) : Prop := if k = true then SqL K H a xs else SqT K H a xs
def iterK (k : Bool) (h : Heap) (i a : Addr) (n : Nat) : Prop := if k = true then h.IsListIter i a n else h.IsTupleIter i a n
def srcK (k : Bool) (h : Heap) (a : Addr) (items : Array Value) : Prop := if k = true then h.IsList a items else h.IsTuple a items
def begO (k : Bool) (a : Addr) : Obj := if k = true then { cls := .type "list_iterator", data := .fields #[.ref a, .int 0 0] } else { cls := .type "tuple_iterator", data := .fields #[.ref a, .int 0 0] }
theorem drawsK {prog : Program} {w : World} {A : Around} (hh : A.handled = none) (k : Bool) (it a : Addr) (hne : a ≠ it) (items : Array Value) :
    Draws prog w A it [it, a] items.size (fun i v => items[i]? = some v) (fun i h => iterK k h it a i ∧ srcK k h a items) := by
  cases k with
  | true => exact Draws.list hh it a hne items
  | false => exact Draws.tuple hh it a hne items
theorem beginsK (k : Bool) (a : Addr) (items : Array Value) : Begins (.ref a) (begO k a) fun h => srcK k h a items := by
  cases k with
  | true => exact begins_list a items
  | false => exact begins_tuple a items
theorem iterK_at {k : Bool} {h h' : Heap} {i a : Addr} {n : Nat} (x : iterK k h i a n) (f : ∀ o, h.get? i = some o → h'.get? i = some o) : iterK k h' i a n := by
  cases k with
  | true => exact Heap.IsListIter.at x f
  | false => exact Heap.IsTupleIter.at x f
theorem iterK_obj {k : Bool} {h : Heap} {i a : Addr} {n : Nat} (x : iterK k h i a n) : ∃ o, h.get? i = some o ∧ ∀ v, o.data ≠ .cell v := by
  cases k with
  | true =>
    obtain ⟨o, e, _, d⟩ := (show h.IsListIter i a n from x)
    exact ⟨o, e, fun v q => by rw [d] at q; cases q⟩
  | false =>
    obtain ⟨o, e, _, d⟩ := (show h.IsTupleIter i a n from x)
    exact ⟨o, e, fun v q => by rw [d] at q; cases q⟩
theorem begO_iter {k : Bool} {h : Heap} {i a : Addr} (e : h.get? i = some (begO k a)) : iterK k h i a 0 := by
  cases k with
  | true => exact ⟨_, e, rfl, rfl⟩
  | false => exact ⟨_, e, rfl, rfl⟩
theorem sqK_src {X : Cx} {pins : List (Addr × Obj)} {σ : L2.St} {H : Hp} {s : Shared} (I : Inv X pins σ H s) {k : Bool} {a : Addr} {xs : List V} (h : SqK X.K k H a xs) : ∃ its : List Value, Vals xs its ∧ srcK k s.heap a its.toArray ∧ a < s.heap.objs.size := by
  cases k with
  | true =>
    obtain ⟨its, r, p, _⟩ := I.list h
    exact ⟨its, r, p.isList, p.lt⟩
  | false =>
    obtain ⟨its, r, p, _⟩ := I.tuple h
    exact ⟨its, r, p, p.lt⟩
theorem sqK_inj {X : Cx} {pins : List (Addr × Obj)} {σ : L2.St} {H : Hp} {s : Shared} (I : Inv X pins σ H s) {k : Bool} {a : Addr} {xs ys : List V} (h : SqK X.K k H a xs) (h' : SqK X.K k H a ys) : xs = ys := by
  cases k with
  | true => exact I.list_inj h h'
  | false => exact I.tuple_inj h h'
def ItzM (K : PySem.W.Frag) (k1 k2 : Bool) (a b : Addr) : It :=
  ⟨fun i H => ∃ (xs ys : List V) (x y : V), SqK K k1 H a xs ∧ SqK K k2 H b ys ∧ xs[i]? = some x ∧ ys[i]? = some y,
    fun i H v H' => ∃ T x y, v = .ref T ∧ H T = none ∧ H' = upd H T (.tup [x, y]) ∧ (∀ xs, SqK K k1 H a xs → xs[i]? = some x) ∧ ∀ ys, SqK K k2 H b ys → ys[i]? = some y,
    fun i H => ∃ xs ys : List V, SqK K k1 H a xs ∧ SqK K k2 H b ys ∧ i = min xs.length ys.length⟩
theorem turn_zipM {P : Program} {w : World} {K : PySem.W.Frag} {elts : List Expr} {kk : Nat} {tpos : Pos} {k1 k2 : Bool} {a b z TI TO i1 i2 : Addr} (D : ZipSep2 z TI TO i1 i2 [i1, a] [i2, b]) (n1 : a ≠ i1) (n2 : b ≠ i2) :
    Turn P w K (.Tuple elts kk tpos) (ItzM K k1 k2 a b) [z, TI, TO, i1, i2] z (fun i h => IsZip h z TI TO .none ∧ IsTupOf2 h TI (.ref i1) (.ref i2) ∧ (∃ x y, IsTupOf2 h TO x y) ∧ iterK k1 h i1 a i ∧ iterK k2 h i2 b i) where
  mem := by simp
  obj := fun i h st c hc => by
    obtain ⟨hz, hTI, ⟨x, y, hTO⟩, h1, h2⟩ := st
    have e' : c = z ∨ c = TI ∨ c = TO ∨ c = i1 ∨ c = i2 := by simpa using hc
    rcases e' with q | q | q | q | q
    · rw [q]; exact ⟨_, hz, fun v q => nomatch q⟩
    · rw [q]; exact ⟨_, hTI, fun v q => nomatch q⟩
    · rw [q]; exact ⟨_, hTO, fun v q => nomatch q⟩
    · rw [q]; exact iterK_obj h1
    · rw [q]; exact iterK_obj h2
  keep := fun i h h' st k => by
    obtain ⟨hz, hTI, ⟨x, y, hTO⟩, h1, h2⟩ := st
    exact ⟨k z (by simp) _ hz, k TI (by simp) _ hTI, ⟨x, y, k TO (by simp) _ hTO⟩, iterK_at h1 fun o q => k i1 (by simp) o q, iterK_at h2 fun o q => k i2 (by simp) o q⟩
  item := by
    intro X hP hw hK hc i pins s σ H E I hf st hg
    subst hP hw hK
    obtain ⟨hz, hTI, ⟨x0, y0, hTO⟩, h1, h2⟩ := st
    obtain ⟨xs, ys, x, y, hqx, hqy, hx, hy⟩ := hg
    obtain ⟨its, rv, p, _⟩ := sqK_src I hqx
    obtain ⟨its2, rv2, p2, _⟩ := sqK_src I hqy
    obtain ⟨u, hu, ru⟩ := rv.get hx
    obtain ⟨u2, hu2, ru2⟩ := rv2.get hy
    have G := GoesN.zip2 (prog := X.prog) (w := X.w) (A := X.A) (elts := elts) (x1 := kk) (pos := tpos) D (drawsK (A := X.A.in1) (I.ok.hd hc) k1 i1 a n1 its.toArray) (drawsK (A := X.A.in1) (I.ok.hd hc) k2 i2 b n2 its2.toArray)
    have hi1 : i < its.toArray.size := by simpa using (List.getElem?_eq_some_iff.mp hu).1
    have hi2 : i < its2.toArray.size := by simpa using (List.getElem?_eq_some_iff.mp hu2).1
    refine G.goes i s _ E (by omega) ⟨hz, hTI, ⟨x0, y0, hTO⟩, ⟨h1, p⟩, ⟨h2, p2⟩⟩ fun v h' tk hY st' hk htk => ?_
    obtain ⟨T, v1, v2, rfl, hT, e1, e2, hTup⟩ := hY
    obtain ⟨z', TI', ⟨a1, a2, TO'⟩, ⟨h1', _⟩, ⟨h2', _⟩⟩ := st'
    have ev1 : v1 = u := by
      have : its.toArray[i]? = some u := by simpa using hu
      rw [this] at e1
      exact (Option.some.inj e1).symm
    have ev2 : v2 = u2 := by
      have : its2.toArray[i]? = some u2 := by simpa using hu2
      rw [this] at e2
      exact (Option.some.inj e2).symm
    subst ev1 ev2
    have new : ObjOk X.prog X.w (upd H T (.tup [x, y])) h' T (.tup [x, y]) :=
      ⟨by show 2 ≤ sizeLine; decide, [v1, v2], .cons ru (.cons ru2 .nil), hTup⟩
    have I1 : Inv X pins σ (upd H T (.tup [x, y])) { s with heap := h', toks := tk } :=
      I.turnedNew (t' := tk) (ch := [z, TI, TO, i1, i2]) (fun c o hb q => hk c o (fun q' => hb (by
        have e' : c = z ∨ c = TO ∨ c = i1 ∨ c = i2 := by simpa using q'
        rcases e' with q | q | q | q <;> simp [q])) q) hf hT new
    refine ⟨.ref T, _, I1, rfl, ⟨T, x, y, rfl, I.hok.fresh hT, rfl, fun l hl => by rw [sqK_inj I hl hqx]; exact hx, fun l hl => by rw [sqK_inj I hl hqy]; exact hy⟩, ⟨z', TI', ⟨a1, a2, TO'⟩, h1', h2'⟩, fun c hcm => ?_⟩
    have hlt : c < s.heap.objs.size := by
      have e' : c = z ∨ c = TI ∨ c = TO ∨ c = i1 ∨ c = i2 := by simpa using hcm
      rcases e' with q | q | q | q | q
      · rw [q]; exact Heap.lt_size hz
      · rw [q]; exact Heap.lt_size hTI
      · rw [q]; exact Heap.lt_size hTO
      · rw [q]; obtain ⟨_, e1, _⟩ := iterK_obj h1; exact Heap.lt_size e1
      · rw [q]; obtain ⟨_, e1, _⟩ := iterK_obj h2; exact Heap.lt_size e1
    rw [upd_ne (Nat.ne_of_lt (Nat.lt_of_lt_of_le hlt hT))]
    exact (hf c hcm).1
  done := by
    intro X hP hw hK hc i pins s σ H E I hf st hg
    subst hP hw hK
    obtain ⟨hz, hTI, ⟨x0, y0, hTO⟩, h1, h2⟩ := st
    obtain ⟨xs, ys, hqx, hqy, hend⟩ := hg
    obtain ⟨its, rv, p, _⟩ := sqK_src I hqx
    obtain ⟨its2, rv2, p2, _⟩ := sqK_src I hqy
    have G := GoesN.zip2 (prog := X.prog) (w := X.w) (A := X.A) (elts := elts) (x1 := kk) (pos := tpos) D (drawsK (A := X.A.in1) (I.ok.hd hc) k1 i1 a n1 its.toArray) (drawsK (A := X.A.in1) (I.ok.hd hc) k2 i2 b n2 its2.toArray)
    have l1 := rv.length
    have l2 := rv2.length
    have en : i = min its.toArray.size its2.toArray.size := by simp [← l1, ← l2, hend]
    subst en
    refine G.stops s _ E ⟨hz, hTI, ⟨x0, y0, hTO⟩, ⟨h1, p⟩, ⟨h2, p2⟩⟩ fun h' tk hk htk => ?_
    exact I.turnedL (t' := tk) (ch := [z, TI, TO, i1, i2]) (fun c o hb q => hk c o (fun q' => hb (by
        have e' : c = z ∨ c = TO ∨ c = i1 ∨ c = i2 := by simpa using q'
        rcases e' with q | q | q | q <;> simp [q])) q) hf
  self := fun A i s Q E st h => wpAny_pyIter_zip st.1 h
def iZipM (K : PySem.W.Frag) (ta : TA) : TI := fun σ H R => ta σ H fun vs H1 => ∃ a b xs ys k1 k2, vs = [.ref a, .ref b] ∧ SqK K k1 H1 a xs ∧ SqK K k2 H1 b ys ∧ R (ItzM K k1 k2 a b) H1
theorem pi_zipM {X : Cx} {e e2 : Expr} {ta : TA} {p pos tpos : Pos} {elts : List Expr} {kk : Nat} (hg : Gl X "zip") (hm : X.mg "zip" = none) (ha : PA X [e, e2] ta)
    (hs : starEach [e, e2] X.env = (false, eval e X.env) :: starEach [e2] X.env := by rfl) (hpl : (backTo pos (starEach [e2] X.env)).any (·.1) = false := by rfl) :
    PI X (.Tuple elts kk tpos) (.Call (.Name "zip" p) [e, e2] [] pos) (iZipM X.K ta) := by
  refine ⟨fun pins s σ H R I h => ?_⟩
  refine Call_ (ld_blt I hg hm PyProof.Rows.boot_zip (PyProof.Rows.callWith_type1 (thn (ha.run pos pins s σ H _ I h) fun us s1 ⟨vs, H1, I1, r1, q1⟩ => ?_) hs hpl))
  obtain ⟨a, b, xs, ys, k1, k2, ex, hqx, hqy, q⟩ := q1
  subst ex
  cases r1 with
  | cons r rr =>
    cases rr with
    | cons r' rr =>
      cases rr
      cases r
      cases r'
      obtain ⟨its, rv, p1, la⟩ := sqK_src I1 hqx
      obtain ⟨its2, rv2, p2, lb⟩ := sqK_src I1 hqy
      refine zip_begins2 (beginsK k1 a its.toArray) (beginsK k2 b its2.toArray) p1 p2 fun h' hz hTI hTO g1 g2 hsz hk => wpAny_pyIter_zip hz ?_
      have I2 : Inv X pins σ H1 { s1 with heap := h' } := I1.kept (t' := s1.toks) hk
      refine ⟨s1.heap.objs.size + 4, [s1.heap.objs.size + 4, s1.heap.objs.size + 2, s1.heap.objs.size + 3, s1.heap.objs.size, s1.heap.objs.size + 1], _, _, H1, rfl, I2,
        turn_zipM (k1 := k1) (k2 := k2) (zip_sep2 (fp1 := [a]) (fp2 := [b]) (by simpa using la) (by simpa using lb)) (Nat.ne_of_lt la) (Nat.ne_of_lt (Nat.lt_succ_of_lt lb)), ⟨hz, hTI, ⟨_, _, hTO⟩, begO_iter g1, begO_iter g2⟩, fun c hcm => ?_, q⟩
      have hle : s1.heap.objs.size ≤ c := by
        have e' : c = s1.heap.objs.size + 4 ∨ c = s1.heap.objs.size + 2 ∨ c = s1.heap.objs.size + 3 ∨ c = s1.heap.objs.size ∨ c = s1.heap.objs.size + 1 := by simpa using hcm
        rcases e' with z | z | z | z | z
        · rw [z]; exact Nat.le_add_right _ _
        · rw [z]; exact Nat.le_add_right _ _
        · rw [z]; exact Nat.le_add_right _ _
        · rw [z]; exact Nat.le_refl _
        · rw [z]; exact Nat.le_add_right _ _
      exact I1.fpOk hle (I1.hok.fresh hle)
theorem meets_enum1 {v : Value} {o : Obj} {H : Heap → Prop} (B : Begins v o H) :
    Meets (Builtin.«enumerate.__new__» ⟨[.type "enumerate", v], []⟩) (fun _ R s => H s.heap ∧
      R (.ok (.ret (.ref (s.heap.push o).objs.size))) { s with heap := (s.heap.push o).push { cls := .type "enumerate", data := .fields #[.none, .bool false, .ref s.heap.objs.size, rawInt 0, .none, .none] } }) :=
  .of_wp fun prog w A R s h => by
    obtain ⟨hp, g, d, tk, os⟩ := s; obtain ⟨h1, h⟩ := h
    have hsub := sub_enumerate
    have q1 : ∀ {A' : Around} {E : Value → Shared → Prop} {Q : Value → Shared → Prop}, Q (.ref hp.objs.size) ⟨hp.push o, g, d, tk, os⟩ → wpAny (model prog w) A' (pyIter v) Q E ⟨hp, g, d, tk, os⟩ :=
      fun q => B.iter prog w _ _ ⟨hp, g, d, tk, os⟩ _ h1 q
    wp_walk using q1
    refine wpAny_stack_any fun st => wpAny_pure ?_
    split
    · rename_i c _ _ _ _ _
      cases (c == Value.type "enumerate")
      · wp_walk using q1
        exact ⟨_, rfl, h⟩
      · wp_walk using q1
        exact ⟨_, rfl, h⟩
    · wp_walk using q1
      exact ⟨_, rfl, h⟩
section
variable {prog : Program} {w : World} {A : Around} {E : Value → Shared → Prop} {s : Shared}
theorem enum_begins1 {v : Value} {o : Obj} {H : Heap → Prop} {Q : Value → Shared → Prop} (B : Begins v o H) (h1 : H s.heap)
    (h : ∀ h', IsEnum h' (s.heap.objs.size + 1) s.heap.objs.size 0 .none → h'.get? s.heap.objs.size = some o → h'.objs.size = s.heap.objs.size + 2 →
      (∀ b o, s.heap.get? b = some o → h'.get? b = some o) → Q (.ref (s.heap.objs.size + 1)) { s with heap := h' }) :
    wpAny (model prog w) A (call (.type "enumerate") [v]) Q E s := by
  refine callType_new F.called_enumerate (by decide) (F.typeCall_enumerate_1 _) (F.newCall_enumerate_1 _) (fun obj => F.args_object_init_2 obj _) F.entry_enumerate_new
    (meets_enum1 B) ⟨h1, ?_⟩
  have hz : (s.heap.push o).objs.size = s.heap.objs.size + 1 := Heap.size_push ..
  show _ ∧ _
  rw [hz]
  have he : IsEnum ((s.heap.push o).push { cls := .type "enumerate", data := .fields #[.none, .bool false, .ref s.heap.objs.size, rawInt 0, .none, .none] }) (s.heap.objs.size + 1) s.heap.objs.size 0 .none := by
    have := Heap.get?_push_size (s.heap.push o) (o := { cls := .type "enumerate", data := .fields #[.none, .bool false, .ref s.heap.objs.size, rawInt 0, .none, .none] }) rfl
    rw [hz] at this; exact this
  refine ⟨⟨_, he, rfl⟩, h _ he (Heap.get?_push_of_some _ (Heap.get?_push_size _ B.free)) (by rw [Heap.size_push, hz]) fun b o x => Heap.get?_push_of_some _ (Heap.get?_push_of_some _ x)⟩
end
def IteM (K : PySem.W.Frag) (k : Bool) (a : Addr) : It :=
  ⟨fun i H => ∃ (xs : List V) (x : V), SqK K k H a xs ∧ xs[i]? = some x, fun i H v H' => ∃ T x, v = .ref T ∧ H T = none ∧ H' = upd H T (.tup [.int (i : Nat), x]) ∧ ∀ xs, SqK K k H a xs → xs[i]? = some x, fun i H => ∃ xs : List V, SqK K k H a xs ∧ i = xs.length⟩
theorem turn_enumM {P : Program} {w : World} {K : PySem.W.Frag} {elts : List Expr} {kk : Nat} {tpos : Pos} {k : Bool} (a e it : Addr) (hei : e ≠ it) (hea : e ≠ a) (hai : a ≠ it) :
    Turn P w K (.Tuple elts kk tpos) (IteM K k a) [e, it] e (fun i h => (∃ old, IsEnum h e it (0 + ((i : Nat) : Int)) old) ∧ iterK k h it a i) where
  mem := by simp
  obj := fun i h st b hb => by
    obtain ⟨⟨old, he⟩, hi⟩ := st
    have e' : b = e ∨ b = it := by simpa using hb
    rcases e' with z | z
    · rw [z]; exact ⟨_, he, fun v q => nomatch q⟩
    · rw [z]; exact iterK_obj hi
  keep := fun i h h' st k => let ⟨⟨old, he⟩, hi⟩ := st; ⟨⟨old, k e (by simp) _ he⟩, iterK_at hi fun o q => k it (by simp) o q⟩
  item := by
    intro X hP hw hK hc i pins s σ H E I hf st hg
    subst hP hw hK
    obtain ⟨⟨old, he⟩, hit⟩ := st
    obtain ⟨xs, x, hq, hx⟩ := hg
    obtain ⟨its, rv, p, _⟩ := sqK_src I hq
    obtain ⟨u, hu, ru⟩ := rv.get hx
    have G := GoesN.enumFrom (prog := X.prog) (w := X.w) (A := X.A) (elts := elts) (x1 := kk) (pos := tpos) 0 (drawsK (A := X.A.in1) (I.ok.hd hc) k it a hai its.toArray) e hei (by simp [hei, hea]) (by simp)
    have hi1 : i < its.toArray.size := by simpa using (List.getElem?_eq_some_iff.mp hu).1
    refine G.goes i s _ E hi1 ⟨⟨old, he⟩, ⟨hit, p⟩⟩ fun v h' tk hY st' hk htk => ?_
    obtain ⟨T, t, v1, rfl, hT, e1, hTup⟩ := hY
    obtain ⟨⟨old', he'⟩, ⟨hit', _⟩⟩ := st'
    have ev1 : v1 = u := by
      have : its.toArray[i]? = some u := by simpa using hu
      rw [this] at e1
      exact (Option.some.inj e1).symm
    subst ev1
    have new : ObjOk X.prog X.w (upd H T (.tup [.int (i : Nat), x])) h' T (.tup [.int (i : Nat), x]) :=
      ⟨by show 2 ≤ sizeLine; decide, [.int (0 + (i : Int)) t, v1], .cons ⟨t, by rw [Int.zero_add]⟩ (.cons ru .nil), hTup⟩
    have I1 : Inv X pins σ (upd H T (.tup [.int (i : Nat), x])) { s with heap := h', toks := tk } := I.turnedNew (t' := tk) (ch := [e, it]) (fun c o hb q => hk c o hb q) hf hT new
    refine ⟨.ref T, _, I1, rfl, ⟨T, x, rfl, I.hok.fresh hT, rfl, fun l hl => by rw [sqK_inj I hl hq]; exact hx⟩, ⟨⟨old', he'⟩, hit'⟩, fun c hcm => ?_⟩
    have hlt : c < s.heap.objs.size := by
      have e' : c = e ∨ c = it := by simpa using hcm
      rcases e' with q | q
      · rw [q]; exact Heap.lt_size he
      · rw [q]; obtain ⟨_, e1, _⟩ := iterK_obj hit; exact Heap.lt_size e1
    rw [upd_ne (Nat.ne_of_lt (Nat.lt_of_lt_of_le hlt hT))]
    exact (hf c hcm).1
  done := by
    intro X hP hw hK hc i pins s σ H E I hf st hg
    subst hP hw hK
    obtain ⟨⟨old, he⟩, hit⟩ := st
    obtain ⟨xs, hq, rfl⟩ := hg
    obtain ⟨its, rv, p, _⟩ := sqK_src I hq
    have G := GoesN.enumFrom (prog := X.prog) (w := X.w) (A := X.A) (elts := elts) (x1 := kk) (pos := tpos) 0 (drawsK (A := X.A.in1) (I.ok.hd hc) k it a hai its.toArray) e hei (by simp [hei, hea]) (by simp)
    have en : xs.length = its.toArray.size := by simp [rv.length]
    rw [en] at he hit
    exact G.stops s _ E ⟨⟨old, he⟩, ⟨hit, p⟩⟩ fun h' tk hk htk => I.turnedL (t' := tk) (ch := [e, it]) (fun c o hb q => hk c o hb q) hf
  self := fun A i s Q E st h => let ⟨⟨_, he⟩, _⟩ := st; wpAny_pyIter_enum he h
def iEnumM (K : PySem.W.Frag) (ta : TA) : TI := fun σ H R => ta σ H fun vs H1 => ∃ a xs k, vs = [.ref a] ∧ SqK K k H1 a xs ∧ R (IteM K k a) H1
theorem pi_enumM {X : Cx} {e : Expr} {ta : TA} {p pos tpos : Pos} {elts : List Expr} {kk : Nat} (hg : Gl X "enumerate") (hm : X.mg "enumerate" = none) (ha : PA X [e] ta) (hs : starEach [e] X.env = [(false, eval e X.env)] := by rfl) :
    PI X (.Tuple elts kk tpos) (.Call (.Name "enumerate" p) [e] [] pos) (iEnumM X.K ta) := by
  refine ⟨fun pins s σ H R I h => ?_⟩
  refine Call_ (ld_blt I hg hm boot_enumerate (PyProof.Rows.callWith_type1 (thn (ha.run pos pins s σ H _ I h) fun us s1 ⟨vs, H1, I1, r1, q1⟩ => ?_) hs rfl))
  obtain ⟨a, xs, k, ex, hq, q⟩ := q1
  subst ex
  cases r1 with
  | cons r rr =>
    cases rr
    cases r
    obtain ⟨its, rv, p', la⟩ := sqK_src I1 hq
    refine enum_begins1 (beginsK k a its.toArray) p' fun h' he g1 hsz hk => wpAny_pyIter_enum he ?_
    have I2 : Inv X pins σ H1 { s1 with heap := h' } := I1.kept (t' := s1.toks) hk
    refine ⟨s1.heap.objs.size + 1, [s1.heap.objs.size + 1, s1.heap.objs.size], _, _, H1, rfl, I2, turn_enumM (k := k) a (s1.heap.objs.size + 1) s1.heap.objs.size (Nat.succ_ne_self _) (Nat.ne_of_gt (Nat.lt_succ_of_lt la)) (Nat.ne_of_lt la), ⟨⟨.none, he⟩, begO_iter g1⟩, fun b hb => ?_, q⟩
    have e' : b = s1.heap.objs.size + 1 ∨ b = s1.heap.objs.size := by simpa using hb
    have hle : s1.heap.objs.size ≤ b := by
      rcases e' with z | z
      · rw [z]; exact Nat.le_add_right _ _
      · rw [z]; exact Nat.le_refl _
    exact I1.fpOk hle (I1.hok.fresh hle)
end SF
namespace SF
open PySem PySem.Spec PyProof.Rows L2
theorem law_callS {P : Program} {w : World} {K : PySem.W.Frag} {mg mb : Str → Option Value} {CX : CXT} {k : Nat} {fa a : Addr} {fd : FuncData} {x : Str} {sp : Sp} {s1 : Shared} {vs : List Value} {ns : List Int}
    (KX : K.In s1.heap) (hns : s1.heap.Ns mainGlobals mg) (hb : s1.heap.Ns builtinsNs mb) (hbb : ∀ x : Str, x ≠ "__name__" → mb x = bootBuiltins x) (hlim : s1.heap.NoLimit) (hseer : s1.heap.NoSeer) (hg : s1.gens = #[])
    (ha : s1.heap.get? a = some { cls := .type "list", data := .seq vs.toArray }) (hi : IntsAre vs ns) (hl : ns.length ≤ sizeLine) (hr : Room k callerA)
    (F : ∀ base : Heap, K.In base → base.Ns mainGlobals mg → base.NoSeer → FnOk P w K mg base CX k fa fd [x] sp) (hbind : ∀ (s : Shared) (u : Value), BindsTo s fd ⟨[u], []⟩ [(x, u)])
    (hsp : ∀ H : Hp, Only H → SqL K H a (ns.map V.int) → sp [.ref a] H (fun v _ => v = .bl true) fun _ _ _ => False)
    (hCX : ∀ H e s', CX [] H s1 (fun _ _ _ => False) e s' → False) :
    codeAny (model P w) callerA (.call (.ref fa) ⟨[.ref a], []⟩) (fun r s' => r = .ok (.ret (.bool true)) ∧ PySem.OldK s1.heap s'.heap ∧ s'.os = s1.os ∧ AllBare s'.gens) s1 := by
  have rv := vals_ints hi
  have lenV := hi.length
  have core : ∀ H : Hp, Only H → SqL K H a (ns.map V.int) → HOk P w H s1.heap → (∀ b, H b ≠ none → b = a) → (H a ≠ none → K.lookup a = none) →
      codeAny (model P w) callerA (.call (.ref fa) ⟨[.ref a], []⟩) (fun r s' => r = .ok (.ret (.bool true)) ∧ PySem.OldK s1.heap s'.heap ∧ s'.os = s1.os ∧ AllBare s'.gens) s1 := by
    intro H hO hS hok hA hK
    have base_of : ∀ {b : Addr} {o : Obj}, s1.heap.get? b = some o → H b = none → (hidT s1.heap H).get? b = some o := fun e n => hidT_get e n
    have noT : ∀ {b : Addr} {o : Obj}, s1.heap.get? b = some o → o.cls ≠ .type "list" → H b = none := fun {b o} e d => by
      cases q : H b with
      | none => rfl
      | some u =>
        have e' : b = a := hA b (by rw [q]; simp)
        subst e'
        rw [ha] at e; cases e
        exact absurd rfl d
    have noA : ∀ {b : Addr} {o : Obj} {es : Array DictEntry} {ep : Nat}, s1.heap.get? b = some o → o.data = .dict es ep → H b = none := fun {b o es ep} e d => by
      cases q : H b with
      | none => rfl
      | some u =>
        have e' : b = a := hA b (by rw [q]; simp)
        subst e'
        rw [ha] at e; cases e
        have d' : Data.seq vs.toArray _ = Data.dict es ep := d
        cases d'
    have nsK : ∀ {b : Addr} {m : Str → Option Value}, s1.heap.Ns b m → (hidT s1.heap H).Ns b m := fun {b m} ⟨o, es, ep, e, d, r⟩ => ⟨o, es, ep, base_of e (noA e d), d, r⟩
    have hKb : K.In (hidT s1.heap H) := fun b o e => base_of (KX b o e) (by
      cases q : H b with
      | none => rfl
      | some u =>
        have e' : b = a := hA b (by rw [q]; simp)
        subst e'
        rw [hK (by rw [q]; simp)] at e; cases e)
    have hM : Mod K mg (hidT s1.heap H) := ⟨hKb, nsK hns, ⟨mb, nsK hb, hbb⟩, let ⟨mc, h1, h2⟩ := hlim; ⟨mc, nsK h1, h2⟩⟩
    have hSe : (hidT s1.heap H).NoSeer :=
      ⟨let ⟨mc, a1, b1⟩ := hseer.statics; ⟨mc, nsK a1, b1⟩, let ⟨mc, a1, b1⟩ := hseer.mods; ⟨mc, nsK a1, b1⟩, let ⟨mc, a1, b1⟩ := hseer.imp; ⟨mc, nsK a1, b1⟩,
        let ⟨mg', bm, ob, a1, b1, c1, d1, e1⟩ := hseer.main; ⟨mg', bm, ob, nsK a1, b1, base_of c1 (noT c1 (by rw [d1]; simp)), d1, e1⟩⟩
    have e0 : Env0 P w K mg (hidT s1.heap H) callerA [] s1 H := ⟨rfl, hM, fun b o e => of_hidT e, Nat.le_of_eq (hidT_size _ _), trivial, fun b hb => absurd (show b ∈ ([] : List Addr) from hb) (by simp), hok, .of_eq hg⟩
    refine codeAny_mono ((F _ hKb (nsK hns) hSe).run callerA [] s1 H ⟨[.ref a], []⟩ [.ref a] [.ref a] _ _ hr e0 (hbind s1 (.ref a)) (.cons rfl .nil) (hsp H hO hS)) fun r s' h => ?_
    cases r with
    | error e => exact (hCX H e s' h).elim
    | ok fl =>
      cases fl with
      | next => exact False.elim h
      | brk => exact False.elim h
      | cont => exact False.elim h
      | ret u =>
        obtain ⟨v, H', os, bare, un, hok', r', q⟩ := h
        have q' : v = .bl true := q
        subst q'
        obtain rfl : u = Value.bool true := r'
        refine ⟨rfl, PySem.OldK.of_keep fun b o e => ?_, os, bare⟩
        cases q : H b with
        | none => exact un.keep b o e q (by intro z; exact absurd (show b ∈ ([] : List Addr) from z) (by simp)) (by simp)
        | some u =>
          rcases hO b with z | ⟨ob, xs, z⟩
          · rw [q] at z; cases z
          · have z2 := un.frzs b ob _ z
            obtain ⟨e1, _⟩ := hok b _ z
            obtain ⟨e2, _⟩ := hok' b _ z2
            rw [e] at e1; cases e1
            exact e2
  cases hk : K.lookup a with
  | some o =>
    have e := KX a o hk
    rw [ha] at e
    cases e
    refine core (fun _ => none) (fun _ => .inl rfl) (.inr ⟨_, vs.toArray, _, hk, rfl, rfl, rfl, by rw [List.size_toArray, lenV]; exact hl, by simpa using rv⟩) (fun b u z => by have z' : (none : Option HO) = some u := z; cases z') (fun b z => absurd rfl z) fun z => absurd rfl z
  | none =>
    refine core (fun b => if b = a then some (.frz { cls := .type "list", data := .seq vs.toArray } (.lst (ns.map V.int))) else none) (fun b => ?_) (.inl (.inr ⟨{ cls := .type "list", data := .seq vs.toArray }, if_pos rfl⟩)) (fun b u z => ?_) (fun b z => ?_) fun _ => hk
    · by_cases hb : b = a
      · exact .inr ⟨_, _, if_pos hb⟩
      · exact .inl (if_neg hb)
    · by_cases hb : b = a
      · have z' := (if_pos hb).symm.trans z
        cases z'
        subst hb
        exact ⟨ha, by rw [List.length_map]; exact hl, vs, _, rv, ha⟩
      · have z' := (if_neg hb).symm.trans z
        cases z'
    · by_cases hb : b = a
      · exact hb
      · exact absurd (if_neg hb) z
theorem walk_ofS {l : PySem.W.OpenLaw} {n k : Nat} {q : Program} {loose : List Str} {XP : (Str → Option Value) → Heap → Prop} {YP : World → Heap → Prop} {d : DefRec} {K : Params → PySem.W.Frag} {CX : CXT} {sp : PySem.W.Frag → Sp} {x : Str}
    (hn : l.most = some n) (hn2 : n ≤ sizeLine) (hdf : d.params.defaults = []) (hr : Room k callerA) (hi : PyProof.Rows.importsNone q = true)
    (hY : ∀ (w : World) (h : Heap), YP w h → (K w.params).In h)
    (F : ∀ (w : World) (mg : Str → Option Value) (fa : Addr) (h : Heap), (K w.params).In h → h.Ns mainGlobals mg → mg d.name = some (.ref fa) →
      ∃ fd : FuncData, (∀ (s : Shared) (u : Value), BindsTo s fd ⟨[u], []⟩ [(x, u)]) ∧
        ∀ base : Heap, (K w.params).In base → base.Ns mainGlobals mg → base.NoSeer → FnOk l.prog w (K w.params) mg base CX k fa fd [x] (sp (K w.params)))
    (hsp : ∀ (K : PySem.W.Frag) (H : Hp) (a : Addr) (ns : List Int), ns.length ≤ n → Only H → SqL K H a (ns.map V.int) → sp K [.ref a] H (fun v _ => v = .bl true) fun _ _ _ => False)
    (hCX : ∀ (H : Hp) (s : Shared) (e : Value) (s' : Shared), CX [] H s (fun _ _ _ => False) e s' → False) :
    PySem.W.WalkO q loose XP YP l.row.toRowW d [] (fun f vs => PySem.call f vs) := by
  refine Att.attach_call hn hdf fun w s0 s1 mg mb fa o pm cd doc a vs ns G Y ho hd hcd hmg hobj hints hlen hg => ?_
  have KX := hY w _ Y
  obtain ⟨fd, hb, hF⟩ := F w mg fa _ KX G.T.g hmg
  exact law_callS KX G.T.g G.T.b G.T.builtins G.T.nolimit (G.T.seer hi) hg hobj hints (Nat.le_trans hlen hn2) hr hF hb (fun H hO hS => hsp (K w.params) H a ns hlen hO hS) fun H e s' => hCX H s1 e s'
end SF
namespace SF
open PySem PySem.Spec PyProof.Rows L2
structure Feeds (J : It) (g : TG) (n : Nat) (G : Hp → Prop) (B : Nat → Hp → L2.St → L2.St → Prop) : Prop where
  stops : ∀ H, G H → J.stop n H
  goes : ∀ i H, i < n → G H → J.go i H
  gives : ∀ i H x H', i < n → G H → J.yld i H x H' → Ex H H' ∧ ∀ (σ : L2.St) (Q : L2.St → Hp → Prop), (∀ σ', B i H' σ σ' → Q σ' H') → g x σ H' Q
def EvI (wi : TI) (g : TG) (σ : L2.St) (H : Hp) (n : Nat) (B : Nat → Hp → L2.St → L2.St → Prop) : Prop :=
  ∀ H1, Ex H H1 → ∀ R : It → Hp → Prop, (∀ J H2 G, Ex H1 H2 → (∀ H3, Ex H2 H3 → G H3) → Feeds J g n G B → R J H2) → wi σ H1 R
def EvIv (wi : TI) (g : TG) (σ : L2.St) (H : Hp) (n : Nat) (B : Nat → Hp → L2.St → L2.St → Prop) : Prop :=
  ∀ H1, Ex H H1 → ∀ R : It → Hp → Prop, (∀ J H2 G, Ex H1 H2 → (∀ H3, Ex H H3 → G H3) → Feeds J g n G B → R J H2) → wi σ H1 R
theorem EvIv.i {wi : TI} {g : TG} {σ : L2.St} {H : Hp} {n : Nat} {B : Nat → Hp → L2.St → L2.St → Prop} (h : EvIv wi g σ H n B) : EvI wi g σ H n B := fun H1 e R q =>
  h H1 e R fun J H2 G e2 hg hF => q J H2 G e2 (fun H3 e3 => hg H3 (ex_tr e (ex_tr e2 e3))) hF
theorem EvI.up {wi : TI} {g : TG} {σ : L2.St} {H H' : Hp} {n : Nat} {B : Nat → Hp → L2.St → L2.St → Prop} (h : EvI wi g σ H n B) (e : Ex H H') : EvI wi g σ H' n B := fun H1 a R q => h H1 (ex_tr e a) R q
def B1 (K : PySem.W.Frag) (j : Nat) (ds : List PyData) : Nat → Hp → L2.St → L2.St → Prop := fun i H σ σ' => ∃ x d, ds[i]? = some d ∧ Dd K H x d ∧ σ' = σ.set j (some x)
def BR (j : Nat) (lo : Int) : Nat → Hp → L2.St → L2.St → Prop := fun i _ σ σ' => σ' = σ.set j (some (.int (lo + (i : Int))))
def B2 (K : PySem.W.Frag) (j1 j2 : Nat) (ds es : List PyData) : Nat → Hp → L2.St → L2.St → Prop := fun i H σ σ' => ∃ x y d e, ds[i]? = some d ∧ es[i]? = some e ∧ Dd K H x d ∧ Dd K H y e ∧ σ' = (σ.set j1 (some x)).set j2 (some y)
def BE (K : PySem.W.Frag) (j1 j2 : Nat) (ds : List PyData) : Nat → Hp → L2.St → L2.St → Prop := fun i H σ σ' => ∃ y d, ds[i]? = some d ∧ Dd K H y d ∧ σ' = (σ.set j1 (some (.int (i : Int)))).set j2 (some y)
def BS (j : Nat) (z : Str) : Nat → Hp → L2.St → L2.St → Prop := fun i _ σ σ' => ∃ c, z.cps[i]? = some c ∧ σ' = σ.set j (some (.str ⟨#[c]⟩))
abbrev gTwo (K : PySem.W.Frag) (j1 j2 : Nat) : TG := gTup K 2 (gCons (gName j1) (gCons (gName j2) gNil))
theorem gTwo_go {K : PySem.W.Frag} {j1 j2 : Nat} {x y : V} {T : Addr} {σ : L2.St} {H : Hp} {Q : L2.St → Hp → Prop} (hT : H T = some (.tup [x, y])) (q : Q ((σ.set j1 (some x)).set j2 (some y)) H) : gTwo K j1 j2 (.ref T) σ H Q :=
  ⟨T, [x, y], rfl, SqT.of hT, rfl, x, [y], rfl, y, [], rfl, rfl, q⟩
section
variable {K : PySem.W.Frag} {σ : L2.St} {H : Hp} {ds es : List PyData} {j j1 j2 : Nat}
theorem feeds_list {a : Addr} : Feeds (Itl K a) (gName j) ds.length (fun H => Dd K H (.ref a) (.list ds)) (B1 K j ds) where
  stops := fun H h => by
    obtain ⟨b, xs, e, hs, ha⟩ := dp_lst h
    cases e
    exact ⟨xs, hs, by rw [ha.len]; exact Nat.le_refl _⟩
  goes := fun i H hi h => by
    obtain ⟨b, xs, e, hs, ha⟩ := dp_lst h
    cases e
    obtain ⟨v, e1, _⟩ := ha.get (List.getElem?_eq_getElem hi)
    exact ⟨xs, v, hs, e1⟩
  gives := fun i H x H' hi h y => by
    obtain ⟨b, xs, e, hs, ha⟩ := dp_lst h
    cases e
    obtain ⟨rfl, y⟩ := y
    obtain ⟨d, e1, e2⟩ := ha.got (y xs hs)
    exact ⟨ex_refl, fun σ Q q => q _ ⟨x, d, e1, e2, rfl⟩⟩
theorem feeds_tup {a : Addr} : Feeds (Itt K a) (gName j) ds.length (fun H => Dd K H (.ref a) (.tuple ds)) (B1 K j ds) where
  stops := fun H h => by
    obtain ⟨b, xs, e, hs, ha⟩ := dp_tup h
    cases e
    exact ⟨xs, hs.sq, by rw [ha.len]; exact Nat.le_refl _⟩
  goes := fun i H hi h => by
    obtain ⟨b, xs, e, hs, ha⟩ := dp_tup h
    cases e
    obtain ⟨v, e1, _⟩ := ha.get (List.getElem?_eq_getElem hi)
    exact ⟨xs, v, hs.sq, e1⟩
  gives := fun i H x H' hi h y => by
    obtain ⟨b, xs, e, hs, ha⟩ := dp_tup h
    cases e
    obtain ⟨rfl, y⟩ := y
    obtain ⟨d, e1, e2⟩ := ha.got (y xs hs.sq)
    exact ⟨ex_refl, fun σ Q q => q _ ⟨x, d, e1, e2, rfl⟩⟩
theorem feeds_range {lo : Int} {n : Nat} : Feeds (Itr lo n) (gName j) n (fun _ => True) (BR j lo) where
  stops := fun _ _ => Nat.le_refl _
  goes := fun _ _ hi _ => hi
  gives := fun i H x H' hi _ y => by
    obtain ⟨rfl, rfl⟩ := y
    exact ⟨ex_refl, fun σ Q q => q _ rfl⟩
theorem feeds_str {z : Str} : Feeds (Its z) (gName j) z.cps.size (fun _ => True) (BS j z) where
  stops := fun _ _ => Nat.le_refl _
  goes := fun _ _ hi _ => hi
  gives := fun i H x H' hi _ y => by
    obtain ⟨rfl, c, e, rfl⟩ := y
    exact ⟨ex_refl, fun σ Q q => q _ ⟨c, e, rfl⟩⟩
def seqD (k : Bool) (ds : List PyData) : PyData := if k = true then .list ds else .tuple ds
theorem dp_seq {k : Bool} {v : V} (h : Dd K H v (seqD k ds)) : ∃ a xs, v = .ref a ∧ SqK K k H a xs ∧ DdAll K H xs ds := by
  cases k with
  | true => exact dp_lst h
  | false =>
    obtain ⟨a, xs, e, h1, h2⟩ := dp_tup h
    exact ⟨a, xs, e, h1.sq, h2⟩
theorem feeds_zip {k1 k2 : Bool} {a b : Addr} : Feeds (ItzM K k1 k2 a b) (gTwo K j1 j2) (min ds.length es.length) (fun H => Dd K H (.ref a) (seqD k1 ds) ∧ Dd K H (.ref b) (seqD k2 es)) (B2 K j1 j2 ds es) where
  stops := fun H h => by
    obtain ⟨a', xs, e, hs, ha⟩ := dp_seq h.1
    cases e
    obtain ⟨b', ys, e, hs2, hb⟩ := dp_seq h.2
    cases e
    exact ⟨xs, ys, hs, hs2, by rw [ha.len, hb.len]⟩
  goes := fun i H hi h => by
    obtain ⟨a', xs, e, hs, ha⟩ := dp_seq h.1
    cases e
    obtain ⟨b', ys, e, hs2, hb⟩ := dp_seq h.2
    cases e
    obtain ⟨v, e1, _⟩ := ha.get (List.getElem?_eq_getElem (show i < ds.length by omega))
    obtain ⟨w, e2, _⟩ := hb.get (List.getElem?_eq_getElem (show i < es.length by omega))
    exact ⟨xs, ys, v, w, hs, hs2, e1, e2⟩
  gives := fun i H x H' hi h y => by
    obtain ⟨a', xs, e, hs, ha⟩ := dp_seq h.1
    cases e
    obtain ⟨b', ys, e, hs2, hb⟩ := dp_seq h.2
    cases e
    obtain ⟨T, v, w, rfl, hT, rfl, f1, f2⟩ := y
    obtain ⟨d, e1, e2⟩ := ha.got (f1 xs hs)
    obtain ⟨d', e3, e4⟩ := hb.got (f2 ys hs2)
    exact ⟨ex_new hT, fun σ Q q => gTwo_go upd_same (q _ ⟨v, w, d, d', e1, e3, e2.up (ex_new hT), e4.up (ex_new hT), rfl⟩)⟩
theorem feeds_enum {k : Bool} {a : Addr} : Feeds (IteM K k a) (gTwo K j1 j2) ds.length (fun H => Dd K H (.ref a) (seqD k ds)) (BE K j1 j2 ds) where
  stops := fun H h => by
    obtain ⟨a', xs, e, hs, ha⟩ := dp_seq h
    cases e
    exact ⟨xs, hs, by rw [ha.len]⟩
  goes := fun i H hi h => by
    obtain ⟨a', xs, e, hs, ha⟩ := dp_seq h
    cases e
    obtain ⟨v, e1, _⟩ := ha.get (List.getElem?_eq_getElem hi)
    exact ⟨xs, v, hs, e1⟩
  gives := fun i H x H' hi h y => by
    obtain ⟨a', xs, e, hs, ha⟩ := dp_seq h
    cases e
    obtain ⟨T, v, rfl, hT, rfl, f1⟩ := y
    obtain ⟨d, e1, e2⟩ := ha.got (f1 xs hs)
    exact ⟨ex_new hT, fun σ Q q => gTwo_go upd_same (q _ ⟨v, d, e1, e2.up (ex_new hT), rfl⟩)⟩
def iLT (K : PySem.W.Frag) (tl : TE) : TI := fun σ H R => tl σ H fun x H1 => ∃ a, x = .ref a ∧ (((∃ xs, SqL K H1 a xs) ∧ R (Itl K a) H1) ∨ ((∃ xs, SqT K H1 a xs) ∧ R (Itt K a) H1))
theorem pi_LT {X : Cx} {tg l : Expr} {tl : TE} (hl : PE X l tl) : PI X tg l (iLT X.K tl) := by
  refine ⟨fun pins s σ H R I h => ?_⟩
  refine thn (hl.run pins s σ H _ I h) fun v s1 ⟨x, H1, I1, r1, q1⟩ => ?_
  obtain ⟨a, e, q1⟩ := q1
  subst e
  cases r1
  rcases q1 with ⟨⟨xs, hq⟩, q⟩ | ⟨⟨xs, hq⟩, q⟩
  · obtain ⟨its, rv, p, hz⟩ := I1.list hq
    refine wpAny_pyIter_list p.isList ?_
    refine ⟨s1.heap.objs.size, [s1.heap.objs.size], _, _, H1, rfl, I1.kept (t' := s1.toks) fun b o e => Heap.get?_push_of_some _ e, turn_list a _, ⟨_, Heap.get?_push_size _ rfl, rfl, rfl⟩, fun b hb => ?_, q⟩
    have e : b = s1.heap.objs.size := by simpa using hb
    subst e
    exact I1.fpOk (Nat.le_refl _) (I1.hok.fresh (Nat.le_refl _))
  · obtain ⟨its, rv, p, hz⟩ := I1.tuple hq
    refine wpAny_pyIter_tuple (show s1.heap.IsTuple a its.toArray from p) ?_
    refine ⟨s1.heap.objs.size, [s1.heap.objs.size], _, _, H1, rfl, I1.kept (t' := s1.toks) fun b o e => Heap.get?_push_of_some _ e, turn_tuple a _, ⟨_, Heap.get?_push_size _ rfl, rfl, rfl⟩, fun b hb => ?_, q⟩
    have e : b = s1.heap.objs.size := by simpa using hb
    subst e
    exact I1.fpOk (Nat.le_refl _) (I1.hok.fresh (Nat.le_refl _))
theorem ei_list {tl : TE} (h : EvD K tl σ H (.list ds)) : EvI (iLT K tl) (gName j) σ H ds.length (B1 K j ds) := fun H1 e R q =>
  h H1 e _ fun v H2 e2 hv => by
    obtain ⟨a, xs, rfl, hs, ha⟩ := dp_lst hv
    exact ⟨a, rfl, .inl ⟨⟨xs, hs⟩, q _ _ _ e2 (fun H3 e3 => hv.up e3) feeds_list⟩⟩
theorem ei_tup {tl : TE} (h : EvD K tl σ H (.tuple ds)) : EvI (iLT K tl) (gName j) σ H ds.length (B1 K j ds) := fun H1 e R q =>
  h H1 e _ fun v H2 e2 hv => by
    obtain ⟨a, xs, rfl, hs, ha⟩ := dp_tup hv
    exact ⟨a, rfl, .inr ⟨⟨xs, hs.sq⟩, q _ _ _ e2 (fun H3 e3 => hv.up e3) feeds_tup⟩⟩
theorem eiv_list {i : Nat} {v : V} (h : σ[i]? = some (some v)) (hd : Dd K H v (.list ds)) : EvIv (iLT K (tVar i)) (gName j) σ H ds.length (B1 K j ds) := fun H1 e R q => by
  obtain ⟨a, xs, rfl, hs, ha⟩ := dp_lst (hd.up e)
  exact ⟨_, h, a, rfl, .inl ⟨⟨xs, hs⟩, q _ _ _ ex_refl (fun H3 e3 => hd.up e3) feeds_list⟩⟩
theorem eiv_tup {i : Nat} {v : V} (h : σ[i]? = some (some v)) (hd : Dd K H v (.tuple ds)) : EvIv (iLT K (tVar i)) (gName j) σ H ds.length (B1 K j ds) := fun H1 e R q => by
  obtain ⟨a, xs, rfl, hs, ha⟩ := dp_tup (hd.up e)
  exact ⟨_, h, a, rfl, .inr ⟨⟨xs, hs.sq⟩, q _ _ _ ex_refl (fun H3 e3 => hd.up e3) feeds_tup⟩⟩
variable (K) in
theorem ei_range1 {ta : TA} {n : Int} (h : EvDs K ta σ H [.int n]) (hn : n ≤ 100000) (hn0 : -100000 ≤ n) : EvI (iRng1 ta) (gName j) σ H n.toNat (BR j 0) := fun H1 e R q =>
  h H1 e _ fun vs H2 e2 hv => by
    cases hv with
    | cons h1 h2 =>
      cases h1; cases h2
      exact ⟨n, rfl, by omega, by omega, q _ _ _ e2 (fun _ _ => trivial) feeds_range⟩
variable (K) in
theorem ei_range2 {ta : TA} {lo n : Int} (h : EvDs K ta σ H [.int lo, .int n]) (hn : -100000 ≤ lo ∧ lo ≤ 100000 ∧ -100000 ≤ n ∧ n ≤ 100000) : EvI (iRng2 ta) (gName j) σ H (n - lo).toNat (BR j lo) := fun H1 e R q =>
  h H1 e _ fun vs H2 e2 hv => by
    cases hv with
    | cons h1 h2 =>
      cases h2 with
      | cons h3 h4 =>
        cases h1; cases h3; cases h4
        exact ⟨lo, n, rfl, ⟨by omega, by omega, by omega, by omega⟩, q _ _ _ e2 (fun _ _ => trivial) feeds_range⟩
theorem ei_zip {ta : TA} {k1 k2 : Bool} (h : EvDs K ta σ H [seqD k1 ds, seqD k2 es]) : EvI (iZipM K ta) (gTwo K j1 j2) σ H (min ds.length es.length) (B2 K j1 j2 ds es) := fun H1 e R q =>
  h H1 e _ fun vs H2 e2 hv => by
    cases hv with
    | cons h1 h2 =>
      cases h2 with
      | cons h3 h4 =>
        cases h4
        obtain ⟨a, xs, rfl, hs, ha⟩ := dp_seq h1
        obtain ⟨b, ys, rfl, hs2, hb⟩ := dp_seq h3
        exact ⟨a, b, xs, ys, k1, k2, rfl, hs, hs2, q _ _ _ e2 (fun H3 e3 => ⟨h1.up e3, h3.up e3⟩) feeds_zip⟩
theorem ei_enum {ta : TA} {k : Bool} (h : EvDs K ta σ H [seqD k ds]) : EvI (iEnumM K ta) (gTwo K j1 j2) σ H ds.length (BE K j1 j2 ds) := fun H1 e R q =>
  h H1 e _ fun vs H2 e2 hv => by
    cases hv with
    | cons h1 h2 =>
      cases h2
      obtain ⟨a, xs, rfl, hs, ha⟩ := dp_seq h1
      exact ⟨a, xs, k, rfl, hs, q _ _ _ e2 (fun H3 e3 => h1.up e3) feeds_enum⟩
variable (K) in
theorem ei_str {tl : TE} {z : Str} (h : EvD K tl σ H (.str z)) : EvI (iStr tl) (gName j) σ H z.cps.size (BS j z) := fun H1 e R q =>
  h H1 e _ fun v H2 e2 hv => by
    obtain rfl := dp_str hv
    exact ⟨z, rfl, q _ _ _ e2 (fun _ _ => trivial) feeds_str⟩
variable {D : Ends} {tu : TS} {g : TG} {wi : TI} {n : Nat} {B : Nat → Hp → L2.St → L2.St → Prop}
theorem for_feeds {J : It} {G : Hp → Prop} (w : Feeds J g n G B) (Pv : Nat → L2.St → Hp → Prop) (h0 : Pv 0 σ H) (hG : ∀ i σ H, i ≤ n → Pv i σ H → G H)
    (hs : ∀ i σ σ' H H', i < n → Pv i σ H → Ex H H' → B i H' σ σ' → tu { D with nx := Pv (i + 1), ct := Pv (i + 1), bk := D.nx } σ' H') (hd : ∀ σ H, Pv n σ H → D.nx σ H) :
    ∃ W : Nat → Nat → L2.St → Hp → Prop, (∃ m, W 0 m σ H) ∧ ∀ i m σ H, W i m σ H →
      (J.stop i H ∧ D.nx σ H) ∨ (J.go i H ∧ ∃ N : L2.St → Hp → Prop, (∀ σ' H', N σ' H' → ∃ m', m' < m ∧ W (i + 1) m' σ' H') ∧ ∀ x H', J.yld i H x H' → g x σ H' fun σ2 H2 => tu { D with nx := N, ct := N, bk := D.nx } σ2 H2) := by
  refine ⟨fun i m σ H => m = n - i ∧ i ≤ n ∧ Pv i σ H, ⟨n, by simp, Nat.zero_le _, h0⟩, ?_⟩
  rintro i m σ H ⟨rfl, hi, p⟩
  have q := hG i σ H hi p
  by_cases hlt : i < n
  · refine .inr ⟨w.goes i H hlt q, Pv (i + 1), fun σ' H' p' => ⟨n - (i + 1), by omega, rfl, hlt, p'⟩, fun x H' y => ?_⟩
    obtain ⟨e, k⟩ := w.gives i H x H' hlt q y
    exact k σ _ fun σ' hB => hs i σ σ' H H' hlt p e hB
  · have e : i = n := by omega
    subst e
    exact .inl ⟨w.stops H q, hd σ H p⟩
theorem s_forI (h : EvI wi g σ H n B) (Pv : Hp → Nat → L2.St → Hp → Prop) (h0 : ∀ H2, Ex H H2 → Pv H2 0 σ H2) (hG : ∀ H2 i σ' H', i ≤ n → Pv H2 i σ' H' → Ex H2 H')
    (hs : ∀ H2 i σ' σ'' H' H'', Ex H H2 → i < n → Pv H2 i σ' H' → Ex H' H'' → B i H'' σ' σ'' → tu { D with nx := Pv H2 (i + 1), ct := Pv H2 (i + 1), bk := D.nx } σ'' H'') (hd : ∀ H2 σ' H', Ex H H2 → Pv H2 n σ' H' → D.nx σ' H') : tFor wi g tu D σ H :=
  h H ex_refl _ fun J H2 G e2 hg w => for_feeds w (Pv H2) (h0 H2 e2) (fun i σ' H' hi p => hg H' (hG H2 i σ' H' hi p)) (fun i σ' σ'' H' H'' hi p e hB => hs H2 i σ' σ'' H' H'' e2 hi p e hB) fun σ' H' p => hd H2 σ' H' e2 p
theorem s_forV {Hb : Hp} (h : EvIv wi g σ Hb n B) (hb : Ex Hb H) (Pv : Nat → L2.St → Hp → Prop) (h0 : ∀ H2, Ex H H2 → Pv 0 σ H2) (hG : ∀ i σ' H', i ≤ n → Pv i σ' H' → Ex Hb H')
    (hs : ∀ i σ' σ'' H' H'', i < n → Pv i σ' H' → Ex H' H'' → B i H'' σ' σ'' → tu { D with nx := Pv (i + 1), ct := Pv (i + 1), bk := D.nx } σ'' H'') (hd : ∀ σ' H', Pv n σ' H' → D.nx σ' H') : tFor wi g tu D σ H :=
  h H hb _ fun J H2 G e2 hg w => for_feeds w Pv (h0 H2 e2) (fun i σ' H' hi p => hg H' (hG i σ' H' hi p)) (fun i σ' σ'' H' H'' hi p e hB => hs i σ' σ'' H' H'' hi p e hB) fun σ' H' p => hd σ' H' p
variable (K) in
theorem s_forR {ta : TA} {lo nn : Int} (h : EvDs K ta σ H [.int lo, .int nn]) (hn : -100000 ≤ lo ∧ lo ≤ 100000 ∧ -100000 ≤ nn ∧ nn ≤ 100000) (Pv : Nat → L2.St → Hp → Prop) (h0 : ∀ H1, Ex H H1 → Pv 0 σ H1)
    (hs : ∀ (i : Nat) σ' H', lo + (i : Int) < nn → Pv i σ' H' → tu { D with nx := Pv (i + 1), ct := Pv (i + 1), bk := D.nx } (σ'.set j (some (.int (lo + (i : Int))))) H') (hd : ∀ σ' H', Pv (nn - lo).toNat σ' H' → D.nx σ' H') : tFor (iRng2 ta) (gName j) tu D σ H :=
  s_forR2 K h hn Pv h0 hs hd
def givD (n : Nat) (f : Nat → Bool) (v : Nat → PyData) : List PyData := ((List.range n).filter f).map v
theorem givD_yes {n : Nat} {f : Nat → Bool} {v : Nat → PyData} (h : f n = true) : givD (n + 1) f v = givD n f v ++ [v n] := by
  unfold givD
  rw [List.range_succ, List.filter_append, List.map_append, List.filter_cons, if_pos h] <;> rfl
theorem givD_no {n : Nat} {f : Nat → Bool} {v : Nat → PyData} (h : f n = false) : givD (n + 1) f v = givD n f v := by
  unfold givD
  rw [List.range_succ, List.filter_append, List.map_append, List.filter_cons, if_neg (by rw [h]; decide)]
  show _ ++ [] = _
  rw [List.append_nil]
theorem givD_all (n : Nat) (v : Nat → PyData) : givD n (fun _ => true) v = (List.range n).map v := by
  unfold givD
  rw [List.filter_eq_self.mpr (fun _ _ => rfl)]
theorem givD_len (n : Nat) (f : Nat → Bool) (v : Nat → PyData) : (givD n f v).length ≤ n := by
  unfold givD
  rw [List.length_map]
  have h := List.length_filter_le f (List.range n)
  rw [List.length_range] at h
  exact h
theorem lc_feeds {J : It} {G : Hp → Prop} {tt : TT} {te : TE} {vs : List Nat} {H1 : Hp} {Da : Addr} {Qd : Hp → Prop} (w : Feeds J g n G B) (Pv : Nat → Hp → Prop) (h0 : Pv 0 (upd H1 Da (.lst []))) (hG : ∀ i H, i ≤ n → Pv i H → G H)
    (hs : ∀ i H H' σ2, i < n → Pv i H → Ex H H' → B i H' (wipe σ vs) σ2 → wipe σ2 vs = wipe σ vs ∧ tt σ2 H' fun b H3 =>
      if b = true then te σ2 H3 fun y H4 => ∃ acc, H4 Da = some (.lst acc) ∧ acc.length < sizeLine ∧ Pv (i + 1) (upd H4 Da (.lst (acc ++ [y]))) else Pv (i + 1) H3) (hd : ∀ H, Pv n H → Qd H) :
    ∃ W : Nat → Nat → Hp → Prop, (∃ m, W 0 m (upd H1 Da (.lst []))) ∧ ∀ i m H, W i m H →
      (J.stop i H ∧ Qd H) ∨ (J.go i H ∧ ∃ Nx : Hp → Prop, (∀ H', Nx H' → ∃ m', m' < m ∧ W (i + 1) m' H') ∧ ∀ x H', J.yld i H x H' → g x (wipe σ vs) H' fun σ2 H2 => wipe σ2 vs = wipe σ vs ∧ tt σ2 H2 fun b H3 =>
        if b = true then te σ2 H3 fun y H4 => ∃ acc, H4 Da = some (.lst acc) ∧ acc.length < sizeLine ∧ Nx (upd H4 Da (.lst (acc ++ [y]))) else Nx H3) := by
  refine ⟨fun i m H => m = n - i ∧ i ≤ n ∧ Pv i H, ⟨n, by simp, Nat.zero_le _, h0⟩, ?_⟩
  rintro i m H ⟨rfl, hi, p⟩
  have q := hG i H hi p
  by_cases hlt : i < n
  · refine .inr ⟨w.goes i H hlt q, Pv (i + 1), fun H' p' => ⟨n - (i + 1), by omega, rfl, hlt, p'⟩, fun x H' y => ?_⟩
    obtain ⟨e, k⟩ := w.gives i H x H' hlt q y
    exact k (wipe σ vs) _ fun σ' hB => hs i H H' σ' hlt p e hB
  · have e : i = n := by omega
    subst e
    exact .inl ⟨w.stops H q, hd H p⟩
theorem ef_lc {tt : TT} {te : TE} {vs : List Nat} (f : Nat → Bool) (v : Nat → PyData) (hi : EvI wi g σ H n B) (hn : n ≤ 50000) (hw : ∀ i H' σ', B i H' (wipe σ vs) σ' → wipe σ' vs = wipe σ vs)
    (hs : ∀ i H' σ', Ex H H' → i < n → B i H' (wipe σ vs) σ' → EvB tt σ' H' (f i) ∧ (f i = true → EvD K te σ' H' (v i) ∧ tupO (v i) = true)) : EvF K (tLc wi g tt te vs) σ H (givD n f v) := fun H0 e Q q =>
  hi H0 e _ fun J H1 G e1 hG w Da hD => lc_feeds w (fun i H' => Own K H1 H' Da (givD i f v)) ⟨hD, ex_new hD, ⟨[], upd_same, .nil⟩, rfl⟩
    (fun i H' _ o => hG H' o.ex) (fun i H' H'' σ2 hin o e2 hB => ⟨hw i H'' σ2 hB, by
      have eH : Ex H H'' := ex_tr e (ex_tr e1 (ex_tr o.ex e2))
      obtain ⟨ht, he⟩ := hs i H'' σ2 eH hin hB
      refine ht H'' ex_refl _ fun H3 e3 => ?_
      have o3 := o.up (ex_tr e2 e3)
      cases hf : f i with
      | true =>
        show te σ2 H3 fun y H4 => ∃ acc, H4 Da = some (.lst acc) ∧ acc.length < sizeLine ∧ Own K H1 (upd H4 Da (.lst (acc ++ [y]))) Da (givD (i + 1) f v)
        refine (he hf).1 H3 e3 _ fun y H4 e4 hy => ?_
        have o4 := o3.up e4
        obtain ⟨xs, h1, h2⟩ := o4.at_
        refine ⟨xs, h1, Evl.sz_lt (by have := givD_len i f v; rw [h2.len]; omega), ?_⟩
        rw [givD_yes hf]
        exact o4.put h1 (h2.app (.cons hy .nil)) (tupOAll_app o4.tup (by simp [tupOAll, (he hf).2]))
      | false =>
        show Own K H1 H3 Da (givD (i + 1) f v)
        rw [givD_no hf]
        exact o3⟩) (fun H' o => by
      obtain ⟨xs, h1, h2⟩ := o.at_
      exact q Da xs H' (ex_back e1 hD) (ex_tr e1 o.ex) h1 h2)
theorem ef_lc1 {te : TE} {vs : List Nat} (v : Nat → PyData) (hi : EvI wi g σ H n B) (hn : n ≤ 50000) (hw : ∀ i H' σ', B i H' (wipe σ vs) σ' → wipe σ' vs = wipe σ vs)
    (hs : ∀ i H' σ', Ex H H' → i < n → B i H' (wipe σ vs) σ' → EvD K te σ' H' (v i) ∧ tupO (v i) = true) : EvF K (tLc wi g tYes te vs) σ H ((List.range n).map v) :=
  (ef_lc (fun _ => true) v hi hn hw fun i H' σ' e h1 h2 => ⟨et_yes, fun _ => hs i H' σ' e h1 h2⟩).to (givD_all n v)
theorem hwB1 {vs : List Nat} (h : ∀ x, wipe ((wipe σ vs).set j (some x)) vs = wipe σ vs) : ∀ i H' σ', B1 K j ds i H' (wipe σ vs) σ' → wipe σ' vs = wipe σ vs := fun _ _ _ ⟨x, _, _, _, e⟩ => by rw [e]; exact h x
theorem hwBR {vs : List Nat} {lo : Int} (h : ∀ x, wipe ((wipe σ vs).set j (some x)) vs = wipe σ vs) : ∀ i H' σ', BR j lo i H' (wipe σ vs) σ' → wipe σ' vs = wipe σ vs := fun _ _ _ e => by rw [show _ = _ from e]; exact h _
theorem hwBS {vs : List Nat} {z : Str} (h : ∀ x, wipe ((wipe σ vs).set j (some x)) vs = wipe σ vs) : ∀ i H' σ', BS j z i H' (wipe σ vs) σ' → wipe σ' vs = wipe σ vs := fun _ _ _ ⟨_, _, e⟩ => by rw [e]; exact h _
theorem hwB2 {vs : List Nat} (h : ∀ x y, wipe (((wipe σ vs).set j1 (some x)).set j2 (some y)) vs = wipe σ vs) : ∀ i H' σ', B2 K j1 j2 ds es i H' (wipe σ vs) σ' → wipe σ' vs = wipe σ vs := fun _ _ _ ⟨x, y, _, _, _, _, _, _, e⟩ => by rw [e]; exact h x y
theorem hwBE {vs : List Nat} (h : ∀ x y, wipe (((wipe σ vs).set j1 (some x)).set j2 (some y)) vs = wipe σ vs) : ∀ i H' σ', BE K j1 j2 ds i H' (wipe σ vs) σ' → wipe σ' vs = wipe σ vs := fun _ _ _ ⟨y, _, _, _, e⟩ => by rw [e]; exact h _ y
end
end SF
namespace SF
abbrev Pt := List Int
abbrev Row := List Int × List Int
def plusP (a b : Pt) : Pt := List.zipWith (· + ·) a b
def timesP (m : Int) (p : Pt) : Pt := p.map (m * ·)
def unitP (n a : Nat) : Pt := (List.range n).map fun k => if k = a then 1 else 0
def Bd (n : Nat) (p : Pt) : Prop := ∀ x ∈ p, x.natAbs < 2 ^ n
def vf (p : Pt) (j : Nat) : Int := p.getD j 0
def row (R : List Row) (i : Nat) : Row := R.getD i ([], [])
def ent (R : List Row) (i c : Nat) : Int := vf (row R i).1 c
def lessR (r : Row) (m : Int) (o : Row) : Row := (plusP r.1 (timesP (-m) o.1), plusP r.2 (timesP (-m) o.2))
theorem plusP_len (a b : Pt) : (plusP a b).length = min a.length b.length := by simp [plusP]
theorem timesP_len (m : Int) (p : Pt) : (timesP m p).length = p.length := by simp [timesP]
theorem unitP_len (n a : Nat) : (unitP n a).length = n := by simp [unitP]
theorem vf_plus {a b : Pt} (h : a.length = b.length) (j : Nat) : vf (plusP a b) j = vf a j + vf b j := by
  unfold vf plusP
  simp only [List.getD_eq_getElem?_getD, List.getElem?_zipWith]
  by_cases hj : j < a.length
  · rw [List.getElem?_eq_getElem hj, List.getElem?_eq_getElem (h ▸ hj)]
    rfl
  · rw [List.getElem?_eq_none (by omega), List.getElem?_eq_none (by omega)]
    rfl
theorem vf_times (m : Int) (p : Pt) (j : Nat) : vf (timesP m p) j = m * vf p j := by
  unfold vf timesP
  simp only [List.getD_eq_getElem?_getD, List.getElem?_map]
  by_cases hj : j < p.length
  · rw [List.getElem?_eq_getElem hj]; rfl
  · rw [List.getElem?_eq_none (by omega)]; simp
theorem vf_unit (n a j : Nat) : vf (unitP n a) j = if j < n ∧ j = a then 1 else 0 := by
  unfold vf unitP
  simp only [List.getD_eq_getElem?_getD, List.getElem?_map]
  by_cases hj : j < n
  · rw [List.getElem?_range hj]
    simp [hj]
  · rw [List.getElem?_eq_none (by simpa using hj)]
    simp [hj]
theorem vf_beyond {p : Pt} {j : Nat} (h : p.length ≤ j) : vf p j = 0 := by
  unfold vf
  rw [List.getD_eq_getElem?_getD, List.getElem?_eq_none h]
  rfl
theorem vf_get {p : Pt} {j : Nat} {x : Int} (h : p[j]? = some x) : vf p j = x := by
  unfold vf
  rw [List.getD_eq_getElem?_getD, h]
  rfl
theorem get_vf {p : Pt} {j : Nat} (h : j < p.length) : p[j]? = some (vf p j) := by
  rw [List.getElem?_eq_getElem h]
  unfold vf
  rw [List.getD_eq_getElem?_getD, List.getElem?_eq_getElem h]
  rfl
theorem pt_ext {p q : Pt} (h : p.length = q.length) (e : ∀ j, j < p.length → vf p j = vf q j) : p = q := by
  apply List.ext_getElem?
  intro j
  by_cases hj : j < p.length
  · rw [get_vf hj, get_vf (h ▸ hj), e j hj]
  · rw [List.getElem?_eq_none (by omega), List.getElem?_eq_none (by omega)]
theorem vf_less {r o : Row} {m : Int} (h : r.1.length = o.1.length) (j : Nat) : vf (lessR r m o).1 j = vf r.1 j - m * vf o.1 j := by
  show vf (plusP r.1 (timesP (-m) o.1)) j = _
  rw [vf_plus (by rw [timesP_len]; exact h), vf_times, Int.neg_mul]
  rfl
theorem vf_less2 {r o : Row} {m : Int} (h : r.2.length = o.2.length) (j : Nat) : vf (lessR r m o).2 j = vf r.2 j - m * vf o.2 j := by
  show vf (plusP r.2 (timesP (-m) o.2)) j = _
  rw [vf_plus (by rw [timesP_len]; exact h), vf_times, Int.neg_mul]
  rfl
theorem row_set_eq {R : List Row} {i : Nat} {x : Row} (h : i < R.length) : row (R.set i x) i = x := by
  unfold row
  rw [List.getD_eq_getElem?_getD, List.getElem?_set_self h]
  rfl
theorem row_set_ne {R : List Row} {i k : Nat} {x : Row} (h : i ≠ k) : row (R.set i x) k = row R k := by
  unfold row
  rw [List.getD_eq_getElem?_getD, List.getD_eq_getElem?_getD, List.getElem?_set_ne h]
theorem row_get {R : List Row} {i : Nat} (h : i < R.length) : R[i]? = some (row R i) := by
  unfold row
  rw [List.getD_eq_getElem?_getD, List.getElem?_eq_getElem h]
  rfl
theorem row_mem {R : List Row} {i : Nat} (h : i < R.length) : row R i ∈ R := List.mem_of_getElem? (row_get h)
def leastN (R : List Row) (done c : Nat) : Nat → Option Nat
  | 0 => none
  | i + 1 =>
    if 0 < (ent R (done + i) c).natAbs ∧ (∀ a ∈ leastN R done c i, (ent R (done + i) c).natAbs < (ent R a c).natAbs) then some (done + i) else leastN R done c i
def leastAt (R : List Row) (done c : Nat) : Option Nat := leastN R done c (R.length - done)
theorem leastN_none {R : List Row} {done c : Nat} : ∀ {n : Nat}, leastN R done c n = none → ∀ i, i < n → ent R (done + i) c = 0
  | 0, _, i, hi => by omega
  | n + 1, h, i, hi => by
    rw [leastN] at h
    split at h
    · cases h
    · rename_i hc
      have ih := leastN_none (n := n) h
      by_cases e : i = n
      · subst e
        rw [h] at hc
        by_cases z : ent R (done + i) c = 0
        · exact z
        · exact absurd ⟨by omega, fun a ha => by cases ha⟩ hc
      · exact ih i (by omega)
theorem leastN_some {R : List Row} {done c a : Nat} : ∀ {n : Nat}, leastN R done c n = some a → done ≤ a ∧ a < done + n ∧ ent R a c ≠ 0 ∧ ∀ i, i < n → ent R (done + i) c ≠ 0 → (ent R a c).natAbs ≤ (ent R (done + i) c).natAbs
  | 0, h => by cases h
  | n + 1, h => by
    rw [leastN] at h
    split at h
    · rename_i hc
      obtain rfl := Option.some.inj h
      refine ⟨by omega, by omega, by omega, fun i hi hz => ?_⟩
      by_cases e : i = n
      · subst e; exact Nat.le_refl _
      · cases hb : leastN R done c n with
        | none => exact absurd (leastN_none hb i (by omega)) hz
        | some b =>
          obtain ⟨h1, h2, h3, h4⟩ := leastN_some hb
          have := hc.2 b hb
          have := h4 i (by omega) hz
          omega
    · rename_i hc
      obtain ⟨h1, h2, h3, h4⟩ := leastN_some (n := n) h
      refine ⟨h1, by omega, h3, fun i hi hz => ?_⟩
      by_cases e : i = n
      · subst e
        by_cases q : (ent R a c).natAbs ≤ (ent R (done + i) c).natAbs
        · exact q
        · exact absurd ⟨by omega, fun b hb => by rw [h] at hb; obtain rfl := Option.some.inj hb; omega⟩ hc
      · exact h4 i (by omega) hz
theorem leastAt_none {R : List Row} {done c : Nat} (h : leastAt R done c = none) : ∀ k, done ≤ k → k < R.length → ent R k c = 0 := fun k h1 h2 => by
  have := leastN_none h (k - done) (by omega)
  rwa [show done + (k - done) = k by omega] at this
theorem leastAt_some {R : List Row} {done c a : Nat} (h : leastAt R done c = some a) : done ≤ a ∧ a < R.length ∧ ent R a c ≠ 0 ∧ ∀ k, done ≤ k → k < R.length → ent R k c ≠ 0 → (ent R a c).natAbs ≤ (ent R k c).natAbs := by
  obtain ⟨h1, h2, h3, h4⟩ := leastN_some h
  refine ⟨h1, by omega, h3, fun k q1 q2 q3 => ?_⟩
  have := h4 (k - done) (by omega)
  rw [show done + (k - done) = k by omega] at this
  exact this q3
def swapR (R : List Row) (done a : Nat) : List Row := (R.set a (row R done)).set done (row R a)
def elimN (R : List Row) (head : Row) (done c : Nat) : Nat → List Row
  | 0 => R
  | i + 1 => (elimN R head done c i).set (done + 1 + i) (lessR (row (elimN R head done c i) (done + 1 + i)) ((ent (elimN R head done c i) (done + 1 + i) c).fdiv (vf head.1 c)) head)
def passR (R : List Row) (done c a : Nat) : List Row := elimN (swapR R done a) (row R a) done c (R.length - (done + 1))
theorem swapR_len (R : List Row) (done a : Nat) : (swapR R done a).length = R.length := by simp [swapR]
theorem swapR_row {R : List Row} {done a : Nat} (h1 : done ≤ a) (h2 : a < R.length) (k : Nat) : row (swapR R done a) k = if k = done then row R a else if k = a then row R done else row R k := by
  unfold swapR
  by_cases e : k = done
  · subst e
    rw [if_pos rfl, row_set_eq (by simp; omega)]
  · rw [if_neg e, row_set_ne (Ne.symm e)]
    by_cases e2 : k = a
    · subst e2
      rw [if_pos rfl, row_set_eq h2]
    · rw [if_neg e2, row_set_ne (Ne.symm e2)]
theorem elimN_len (R : List Row) (head : Row) (done c : Nat) : ∀ i, (elimN R head done c i).length = R.length
  | 0 => rfl
  | i + 1 => by rw [elimN, List.length_set, elimN_len R head done c i]
theorem elimN_row {R : List Row} {head : Row} {done c : Nat} : ∀ {i : Nat}, done + 1 + i ≤ R.length → ∀ k, row (elimN R head done c i) k = if done + 1 ≤ k ∧ k < done + 1 + i then lessR (row R k) ((ent R k c).fdiv (vf head.1 c)) head else row R k
  | 0, _, k => by rw [if_neg (by omega)]; rfl
  | i + 1, h, k => by
    have ih := elimN_row (R := R) (head := head) (done := done) (c := c) (i := i) (by omega)
    rw [elimN]
    by_cases e : k = done + 1 + i
    · subst e
      rw [row_set_eq (by rw [elimN_len]; omega), if_pos (by omega)]
      have e1 : row (elimN R head done c i) (done + 1 + i) = row R (done + 1 + i) := by rw [ih, if_neg (by omega)]
      unfold ent
      rw [e1]
    · rw [row_set_ne (Ne.symm e), ih]
      by_cases q : done + 1 ≤ k ∧ k < done + 1 + i
      · rw [if_pos q, if_pos (by omega)]
      · rw [if_neg q, if_neg (by omega)]
theorem passR_len (R : List Row) (done c a : Nat) : (passR R done c a).length = R.length := by rw [passR, elimN_len, swapR_len]
def oldR (R : List Row) (done a k : Nat) : Row := if k = a then row R done else row R k
theorem passR_row {R : List Row} {done c a : Nat} (h1 : done ≤ a) (h2 : a < R.length) {k : Nat} (hk : k < R.length) : row (passR R done c a) k =
    if k < done then row R k else if k = done then row R a else lessR (oldR R done a k) ((vf (oldR R done a k).1 c).fdiv (ent R a c)) (row R a) := by
  unfold passR
  rw [elimN_row (by rw [swapR_len]; omega)]
  by_cases e1 : k < done
  · rw [if_neg (by omega), if_pos e1, swapR_row h1 h2, if_neg (by omega), if_neg (by omega)]
  · rw [if_neg e1]
    by_cases e2 : k = done
    · subst e2
      rw [if_neg (by omega), if_pos rfl, swapR_row h1 h2, if_pos rfl]
    · rw [if_neg e2, if_pos (by omega)]
      unfold ent
      rw [swapR_row h1 h2, if_neg e2]
      rfl
def clearGo (done c : Nat) : Nat → List Row → Option Nat → List Row
  | 0, R, _ => R
  | _ + 1, R, none => R
  | f + 1, R, some a => clearGo done c f (passR R done c a) (leastAt (passR R done c a) (done + 1) c)
def meas (R : List Row) (c : Nat) : Option Nat → Nat
  | none => 0
  | some a => (ent R a c).natAbs
def clearedR (R : List Row) (done c : Nat) : List Row := clearGo done c (meas R c (leastAt R done c) + 1) R (leastAt R done c)
def negR (r : Row) : Row := (timesP (-1) r.1, timesP (-1) r.2)
def upN (R : List Row) (done c : Nat) : Nat → List Row
  | 0 => R
  | i + 1 => (upN R done c i).set i (lessR (row (upN R done c i) i) ((ent (upN R done c i) i c).fdiv (ent (upN R done c i) done c)) (row (upN R done c i) done))
theorem upN_len (R : List Row) (done c : Nat) : ∀ i, (upN R done c i).length = R.length
  | 0 => rfl
  | i + 1 => by rw [upN, List.length_set, upN_len R done c i]
theorem upN_row {R : List Row} {done c : Nat} (hd : done < R.length) : ∀ {i : Nat}, i ≤ done → ∀ k, row (upN R done c i) k = if k < i then lessR (row R k) ((ent R k c).fdiv (ent R done c)) (row R done) else row R k
  | 0, _, k => by rw [if_neg (by omega)]; rfl
  | i + 1, h, k => by
    have ih := upN_row (R := R) (c := c) hd (i := i) (by omega)
    rw [upN]
    have e1 : row (upN R done c i) done = row R done := by rw [ih, if_neg (by omega)]
    by_cases e : k = i
    · subst e
      rw [row_set_eq (by rw [upN_len]; omega), if_pos (by omega)]
      have e2 : row (upN R done c k) k = row R k := by rw [ih, if_neg (by omega)]
      unfold ent
      rw [e1, e2]
    · rw [row_set_ne (Ne.symm e), ih]
      by_cases q : k < i
      · rw [if_pos q, if_pos (by omega)]
      · rw [if_neg q, if_neg (by omega)]
def posR (R : List Row) (done c : Nat) : List Row := if ent R done c < 0 then R.set done (negR (row R done)) else R
def colStep (S : List Row × Nat) (c : Nat) : List Row × Nat :=
  if S.2 < (clearedR S.1 S.2 c).length ∧ ent (clearedR S.1 S.2 c) S.2 c ≠ 0 then (upN (posR (clearedR S.1 S.2 c) S.2 c) S.2 c S.2, S.2 + 1) else (clearedR S.1 S.2 c, S.2)
def initR (steps : List Pt) : List Row := (List.range steps.length).map fun i => (steps.getD i [], unitP steps.length i)
def stairN (steps : List Pt) : Nat → List Row × Nat
  | 0 => (initR steps, 0)
  | c + 1 => colStep (stairN steps c) c
def stairRows (width : Nat) (steps : List Pt) : List Row := (stairN steps width).1.take (stairN steps width).2
end SF
namespace SF
theorem fd_rem (a : Int) {b : Int} (hb : b ≠ 0) : (a - a.fdiv b * b).natAbs < b.natAbs ∧ 0 ≤ (a - a.fdiv b * b) * b := by
  by_cases h : 0 < b
  · have e : a - a.fdiv b * b = a % b := by rw [Int.fdiv_eq_ediv_of_nonneg _ (by omega), Int.emod_def, Int.mul_comm]
    rw [e]
    have h1 := Int.emod_nonneg a hb
    have h2 := Int.emod_lt_of_pos a h
    exact ⟨by omega, Int.mul_nonneg h1 (by omega)⟩
  · have h' : b < 0 := by omega
    have e : a - a.fdiv b * b = -((-a) % (-b)) := by
      rw [← Int.neg_fdiv_neg, Int.fdiv_eq_ediv_of_nonneg _ (by omega), Int.emod_def]
      grind
    rw [e]
    have h1 := Int.emod_nonneg (-a) (show -b ≠ 0 by omega)
    have h2 := Int.emod_lt_of_pos (-a) (show 0 < -b by omega)
    refine ⟨by omega, ?_⟩
    have := Int.mul_nonneg h1 (show 0 ≤ -b by omega)
    grind
theorem fd_abs (a : Int) {b : Int} (hb : b ≠ 0) : (a.fdiv b).natAbs ≤ a.natAbs / b.natAbs + 1 := by
  have h1 := (fd_rem a hb).1
  have h2 : (a.fdiv b * b).natAbs ≤ a.natAbs + (a - a.fdiv b * b).natAbs := by omega
  rw [Int.natAbs_mul] at h2
  have h3 : (a.fdiv b).natAbs * b.natAbs < a.natAbs + b.natAbs := by omega
  have h0 : 0 < b.natAbs := by omega
  have h4 : a.natAbs < (a.natAbs / b.natAbs + 1) * b.natAbs := by
    have := Nat.lt_div_mul_add (a := a.natAbs) h0
    rw [Nat.add_mul]; omega
  have h5 : (a.fdiv b).natAbs * b.natAbs < (a.natAbs / b.natAbs + 2) * b.natAbs := by
    rw [Nat.add_mul] at h4 ⊢
    omega
  have := Nat.lt_of_mul_lt_mul_right h5
  omega
structure Shp (W n : Nat) (R : List Row) : Prop where
  pt : ∀ k, k < R.length → (row R k).1.length = W
  ct : ∀ k, k < R.length → (row R k).2.length = n
def BdF (d X : Nat) (R : List Row) : Prop := ∀ k, d ≤ k → k < R.length → (∀ j, (vf (row R k).1 j).natAbs ≤ X) ∧ ∀ j, (vf (row R k).2 j).natAbs ≤ X
theorem BdF.mono {d X Y : Nat} {R : List Row} (h : BdF d X R) (e : X ≤ Y) : BdF d Y R := fun k h1 h2 => ⟨fun j => Nat.le_trans ((h k h1 h2).1 j) e, fun j => Nat.le_trans ((h k h1 h2).2 j) e⟩
theorem BdF.up {d d' X : Nat} {R : List Row} (h : BdF d X R) (e : d ≤ d') : BdF d' X R := fun k h1 h2 => h k (by omega) h2
theorem shp_less {W n : Nat} {r o : Row} {m : Int} (h1 : r.1.length = W) (h2 : r.2.length = n) (h3 : o.1.length = W) (h4 : o.2.length = n) : (lessR r m o).1.length = W ∧ (lessR r m o).2.length = n := by
  show (plusP r.1 (timesP (-m) o.1)).length = W ∧ (plusP r.2 (timesP (-m) o.2)).length = n
  rw [plusP_len, timesP_len, plusP_len, timesP_len]
  omega
section
variable {W n : Nat} {R : List Row} {done c a : Nat}
theorem shp_old (s : Shp W n R) (h1 : done ≤ a) (h2 : a < R.length) {k : Nat} (hk : k < R.length) : (oldR R done a k).1.length = W ∧ (oldR R done a k).2.length = n := by
  unfold oldR
  split
  · exact ⟨s.pt _ (by omega), s.ct _ (by omega)⟩
  · exact ⟨s.pt _ hk, s.ct _ hk⟩
theorem shp_pass (s : Shp W n R) (h1 : done ≤ a) (h2 : a < R.length) : Shp W n (passR R done c a) := by
  have key : ∀ k, k < R.length → (row (passR R done c a) k).1.length = W ∧ (row (passR R done c a) k).2.length = n := fun k hk => by
    rw [passR_row h1 h2 hk]
    split
    · exact ⟨s.pt _ hk, s.ct _ hk⟩
    · split
      · exact ⟨s.pt _ h2, s.ct _ h2⟩
      · have := shp_old s h1 h2 hk
        exact shp_less this.1 this.2 (s.pt _ h2) (s.ct _ h2)
  exact ⟨fun k hk => (key k (by rwa [passR_len] at hk)).1, fun k hk => (key k (by rwa [passR_len] at hk)).2⟩
theorem ent_pass (s : Shp W n R) (h1 : done ≤ a) (h2 : a < R.length) {k : Nat} (hk : k < R.length) (c' : Nat) : ent (passR R done c a) k c' =
    if k < done then ent R k c' else if k = done then ent R a c' else vf (oldR R done a k).1 c' - ((vf (oldR R done a k).1 c).fdiv (ent R a c)) * ent R a c' := by
  unfold ent
  rw [passR_row h1 h2 hk]
  split
  · rfl
  · split
    · rfl
    · exact vf_less (by rw [(shp_old s h1 h2 hk).1, s.pt _ h2]) _
theorem ent_pass_below (s : Shp W n R) (h1 : done ≤ a) (h2 : a < R.length) (hz : ent R a c ≠ 0) {k : Nat} (hd : done < k) (hk : k < R.length) :
    (ent (passR R done c a) k c).natAbs < (ent R a c).natAbs ∧ 0 ≤ ent (passR R done c a) k c * ent R a c := by
  rw [ent_pass s h1 h2 hk, if_neg (by omega), if_neg (by omega)]
  exact fd_rem _ hz
theorem old_bd {X : Nat} (b : BdF done X R) (h1 : done ≤ a) (h2 : a < R.length) {k : Nat} (hd : done ≤ k) (hk : k < R.length) : (∀ j, (vf (oldR R done a k).1 j).natAbs ≤ X) ∧ ∀ j, (vf (oldR R done a k).2 j).natAbs ≤ X := by
  unfold oldR
  split
  · exact b done (Nat.le_refl _) (by omega)
  · exact b k hd hk
theorem abs_sub_mul {x q y : Int} {X Qn : Nat} (hx : x.natAbs ≤ X) (hq : q.natAbs ≤ Qn) (hy : y.natAbs ≤ X) : (x - q * y).natAbs ≤ X * (Qn + 1) := by
  have h1 : (q * y).natAbs ≤ Qn * X := by rw [Int.natAbs_mul]; exact Nat.mul_le_mul hq hy
  have h2 : (x - q * y).natAbs ≤ x.natAbs + (q * y).natAbs := by omega
  rw [Nat.mul_add, Nat.mul_one, Nat.mul_comm X Qn]
  omega
theorem bd_pass (s : Shp W n R) {X A : Nat} (b : BdF done X R) (h1 : done ≤ a) (h2 : a < R.length) (hz : ent R a c ≠ 0) (hA : ∀ k, done ≤ k → k < R.length → (ent R k c).natAbs ≤ A) :
    BdF done (X * (A / (ent R a c).natAbs + 2)) (passR R done c a) := fun k hd hk => by
  rw [passR_len] at hk
  have ba := b a h1 h2
  have step : ∀ x, x ≤ X → x ≤ X * (A / (ent R a c).natAbs + 2) := fun x hx => Nat.le_trans hx (Nat.le_mul_of_pos_right _ (Nat.succ_pos _))
  rw [passR_row h1 h2 hk, if_neg (by omega)]
  split
  · exact ⟨fun j => step _ (ba.1 j), fun j => step _ (ba.2 j)⟩
  · have bo := old_bd b h1 h2 hd hk
    have sh := shp_old s h1 h2 hk
    have hq : ((vf (oldR R done a k).1 c).fdiv (ent R a c)).natAbs ≤ A / (ent R a c).natAbs + 1 := by
      refine Nat.le_trans (fd_abs _ hz) (Nat.add_le_add_right (Nat.div_le_div_right ?_) 1)
      unfold oldR
      split
      · exact hA done (Nat.le_refl _) (by omega)
      · exact hA k hd hk
    refine ⟨fun j => ?_, fun j => ?_⟩
    · rw [vf_less (by rw [sh.1, s.pt _ h2])]
      exact abs_sub_mul (bo.1 j) hq (ba.1 j)
    · rw [vf_less2 (by rw [sh.2, s.ct _ h2])]
      exact abs_sub_mul (bo.2 j) hq (ba.2 j)
end
structure C1 (W n N done c B : Nat) (R : List Row) (t : Option Nat) : Prop where
  len : R.length = N
  shp : Shp W n R
  least : t = leastAt R done c
  bd : ∃ X, 1 ≤ X ∧ BdF done X R ∧ 9 * X ^ 6 ≤ B
structure C2 (W n N done c B : Nat) (R : List Row) (t : Option Nat) : Prop where
  len : R.length = N
  shp : Shp W n R
  lt : done < N
  hz : ent R done c ≠ 0
  least : t = leastAt R (done + 1) c
  small : ∀ k, done < k → k < R.length → (ent R k c).natAbs < (ent R done c).natAbs ∧ 0 ≤ ent R k c * ent R done c
  bd : ∃ X, BdF done X R ∧ X ≤ B ∧ ∀ a, t = some a → X * (3 * (ent R done c).natAbs ^ 3 * (ent R a c).natAbs ^ 2) ≤ B
theorem pot_first {X A h h' B : Nat} (h0 : 1 ≤ h) (h1 : h ≤ X) (hA : A ≤ X) (h2 : h' < h) (hB : 9 * X ^ 6 ≤ B) (hX : 1 ≤ X) : X * (A / h + 2) * (3 * h ^ 3 * h' ^ 2) ≤ B ∧ X * (A / h + 2) ≤ B := by
  have e : (A / h + 2) * h ≤ 3 * X := by
    have := Nat.div_mul_le_self A h
    rw [Nat.add_mul]; omega
  have p1 : h ^ 2 ≤ X ^ 2 := Nat.pow_le_pow_left h1 2
  have p2 : h' ^ 2 ≤ X ^ 2 := Nat.pow_le_pow_left (by omega) 2
  constructor
  · calc X * (A / h + 2) * (3 * h ^ 3 * h' ^ 2) = X * (((A / h + 2) * h) * 3 * (h ^ 2 * h' ^ 2)) := by grind
      _ ≤ X * ((3 * X) * 3 * (X ^ 2 * X ^ 2)) := Nat.mul_le_mul_left _ (Nat.mul_le_mul (Nat.mul_le_mul_right _ e) (Nat.mul_le_mul p1 p2))
      _ = 9 * X ^ 6 := by grind
      _ ≤ B := hB
  · have e1 : A / h + 2 ≤ (A / h + 2) * h := Nat.le_mul_of_pos_right _ h0
    have e2 : X * (A / h + 2) ≤ X * (3 * X) := Nat.mul_le_mul_left _ (by omega)
    have e3 : X ^ 2 * 1 ≤ X ^ 2 * X ^ 4 := Nat.mul_le_mul_left _ (Nat.one_le_pow _ _ hX)
    have e4 : X * (3 * X) = 3 * X ^ 2 := by grind
    have e5 : X ^ 2 * X ^ 4 = X ^ 6 := by grind
    omega
theorem pot_next {X A h h' B : Nat} (h0 : 1 ≤ h) (h1 : h ≤ A) (h2 : 2 * h' ≤ A) (hB : X * (3 * A ^ 3 * h ^ 2) ≤ B) : X * (A / h + 2) * (3 * h ^ 3 * h' ^ 2) ≤ B ∧ X * (A / h + 2) ≤ B := by
  have e : (A / h + 2) * h ≤ 3 * A := by
    have := Nat.div_mul_le_self A h
    rw [Nat.add_mul]; omega
  have e2 : 3 * h' ^ 2 ≤ A ^ 2 := by
    have : (2 * h') * (2 * h') ≤ A * A := Nat.mul_le_mul h2 h2
    have z : (2 * h') * (2 * h') = 4 * (h' * h') := by grind
    rw [Nat.pow_two, Nat.pow_two]; omega
  constructor
  · calc X * (A / h + 2) * (3 * h ^ 3 * h' ^ 2) = X * (((A / h + 2) * h) * h ^ 2 * (3 * h' ^ 2)) := by grind
      _ ≤ X * ((3 * A) * h ^ 2 * A ^ 2) := Nat.mul_le_mul_left _ (Nat.mul_le_mul (Nat.mul_le_mul_right _ e) e2)
      _ = X * (3 * A ^ 3 * h ^ 2) := by grind
      _ ≤ B := hB
  · have e1 : A / h + 2 ≤ (A / h + 2) * h := Nat.le_mul_of_pos_right _ h0
    have q1 : 1 ≤ A ^ 2 * h ^ 2 := Nat.mul_pos (Nat.pow_pos (by omega)) (Nat.pow_pos (by omega))
    have q2 : 3 * A * 1 ≤ 3 * A * (A ^ 2 * h ^ 2) := Nat.mul_le_mul_left _ q1
    have q3 : 3 * A * (A ^ 2 * h ^ 2) = 3 * A ^ 3 * h ^ 2 := by grind
    refine Nat.le_trans (Nat.mul_le_mul_left X (show A / h + 2 ≤ 3 * A ^ 3 * h ^ 2 by omega)) hB
section
variable {W n N done c B : Nat} {R : List Row} {a : Nat}
theorem C1.next (h : C1 W n N done c B R (some a)) : C2 W n N done c B (passR R done c a) (leastAt (passR R done c a) (done + 1) c) ∧ meas (passR R done c a) c (leastAt (passR R done c a) (done + 1) c) < meas R c (some a) := by
  obtain ⟨X, hX, hb, hB⟩ := h.bd
  obtain ⟨l1, l2, l3, l4⟩ := leastAt_some h.least.symm
  have hA : ∀ k, done ≤ k → k < R.length → (ent R k c).natAbs ≤ X := fun k h1 h2 => (hb k h1 h2).1 c
  have ed : ent (passR R done c a) done c = ent R a c := by rw [ent_pass h.shp l1 l2 (by omega), if_neg (by omega), if_pos rfl]
  have sm : ∀ k, done < k → k < (passR R done c a).length → (ent (passR R done c a) k c).natAbs < (ent (passR R done c a) done c).natAbs ∧ 0 ≤ ent (passR R done c a) k c * ent (passR R done c a) done c := fun k h1 h2 => by
    rw [passR_len] at h2
    rw [ed]
    exact ent_pass_below h.shp l1 l2 l3 h1 h2
  have hl := h.len
  have h1X : (ent R a c).natAbs ≤ X := hA a l1 l2
  refine ⟨⟨by rw [passR_len]; exact hl, shp_pass h.shp l1 l2, by omega, by rw [ed]; exact l3, rfl, sm, _, bd_pass h.shp hb l1 l2 l3 hA, ?_, fun a' ha' => ?_⟩, ?_⟩
  · exact (pot_first (h' := 0) (by omega) h1X (Nat.le_refl _) (by omega) hB hX).2
  · obtain ⟨m1, m2, m3, _⟩ := leastAt_some ha'
    have q := (sm a' (by omega) m2).1
    rw [ed] at q
    rw [ed]
    exact (pot_first (by omega) h1X (Nat.le_refl _) q hB hX).1
  · cases hm : leastAt (passR R done c a) (done + 1) c with
    | none => show 0 < (ent R a c).natAbs; omega
    | some a' =>
      obtain ⟨m1, m2, m3, _⟩ := leastAt_some hm
      have q := (sm a' (by omega) m2).1
      rw [ed] at q
      exact q
theorem half_rem {x y : Int} (hy : y ≠ 0) (hs : 0 ≤ y * x) (hl : y.natAbs < x.natAbs) : 2 * (x - x.fdiv y * y).natAbs ≤ x.natAbs := by
  obtain ⟨r1, r2⟩ := fd_rem x hy
  have main : ∀ {p q : Int}, 0 < q → q < p → 2 * (p % q) ≤ p := fun {p q} h1 h2 => by
    have e := Int.emod_add_mul_ediv p q
    have d1 : 1 ≤ p / q := by
      have : q / q ≤ p / q := Int.ediv_le_ediv h1 (by omega)
      rw [Int.ediv_self (by omega)] at this
      exact this
    have d2 : q * 1 ≤ q * (p / q) := Int.mul_le_mul_of_nonneg_left d1 (by omega)
    have d3 := Int.emod_lt_of_pos p h1
    omega
  by_cases h : 0 < y
  · have hx : 0 < x := by
      by_cases z : 0 < x
      · exact z
      · have : x < 0 ∨ x = 0 := by omega
        rcases this with z | z
        · have := Int.mul_neg_of_pos_of_neg h z
          omega
        · omega
    have e : x - x.fdiv y * y = x % y := by rw [Int.fdiv_eq_ediv_of_nonneg _ (by omega), Int.emod_def, Int.mul_comm]
    rw [e]
    have := main h (show y < x by omega)
    have := Int.emod_nonneg x hy
    omega
  · have h' : y < 0 := by omega
    have hx : x < 0 := by
      by_cases z : x < 0
      · exact z
      · have : 0 < x ∨ x = 0 := by omega
        rcases this with z | z
        · have := Int.mul_neg_of_neg_of_pos h' z
          omega
        · omega
    have e : x - x.fdiv y * y = -((-x) % (-y)) := by
      rw [← Int.neg_fdiv_neg, Int.fdiv_eq_ediv_of_nonneg _ (by omega), Int.emod_def]
      grind
    rw [e]
    have := main (show 0 < -y by omega) (show -y < -x by omega)
    have := Int.emod_nonneg (-x) (show -y ≠ 0 by omega)
    omega
theorem C2.next (h : C2 W n N done c B R (some a)) : C2 W n N done c B (passR R done c a) (leastAt (passR R done c a) (done + 1) c) ∧ meas (passR R done c a) c (leastAt (passR R done c a) (done + 1) c) < meas R c (some a) := by
  obtain ⟨X, hb, hXB, hB⟩ := h.bd
  obtain ⟨l1, l2, l3, l4⟩ := leastAt_some h.least.symm
  have l1' : done ≤ a := by omega
  have hl := h.len
  have hsa := h.small a (by omega) l2
  have hA : ∀ k, done ≤ k → k < R.length → (ent R k c).natAbs ≤ (ent R done c).natAbs := fun k h1 h2 => by
    by_cases e : k = done
    · subst e; exact Nat.le_refl _
    · exact Nat.le_of_lt (h.small k (by omega) h2).1
  have ed : ent (passR R done c a) done c = ent R a c := by rw [ent_pass h.shp l1' l2 (by omega), if_neg (by omega), if_pos rfl]
  have sm : ∀ k, done < k → k < (passR R done c a).length → (ent (passR R done c a) k c).natAbs < (ent (passR R done c a) done c).natAbs ∧ 0 ≤ ent (passR R done c a) k c * ent (passR R done c a) done c := fun k h1 h2 => by
    rw [passR_len] at h2
    rw [ed]
    exact ent_pass_below h.shp l1' l2 l3 h1 h2
  have pot := hB a rfl
  refine ⟨⟨by rw [passR_len]; exact hl, shp_pass h.shp l1' l2, h.lt, by rw [ed]; exact l3, rfl, sm, _, bd_pass h.shp hb l1' l2 l3 hA, ?_, fun a' ha' => ?_⟩, ?_⟩
  · exact (pot_next (h' := 0) (by omega) (by omega) (by omega) pot).2
  · obtain ⟨m1, m2, m3, m4⟩ := leastAt_some ha'
    have q := (sm a' (by omega) m2).1
    rw [ed] at q
    rw [ed]
    refine (pot_next (by omega) (by omega) ?_ pot).1
    have ea : ent (passR R done c a) a c = ent R done c - (ent R done c).fdiv (ent R a c) * ent R a c := by
      rw [ent_pass h.shp l1' l2 l2, if_neg (by omega), if_neg (by omega)]
      unfold oldR
      rw [if_pos rfl]
      rfl
    have hf := half_rem (x := ent R done c) (y := ent R a c) l3 hsa.2 hsa.1
    rw [passR_len] at m2
    by_cases z : ent (passR R done c a) a c = 0
    · -- the least divides the old head: it is at most half of it
      rw [ea] at z
      have hd : ent R done c = (ent R done c).fdiv (ent R a c) * ent R a c := by omega
      have e1 : (ent R done c).natAbs = ((ent R done c).fdiv (ent R a c)).natAbs * (ent R a c).natAbs := by
        rw [← Int.natAbs_mul, ← hd]
      have e2 : 2 ≤ ((ent R done c).fdiv (ent R a c)).natAbs := by
        by_cases w : 2 ≤ ((ent R done c).fdiv (ent R a c)).natAbs
        · exact w
        · have w' : ((ent R done c).fdiv (ent R a c)).natAbs = 0 ∨ ((ent R done c).fdiv (ent R a c)).natAbs = 1 := by omega
          rcases w' with w' | w'
          · rw [w', Nat.zero_mul] at e1; omega
          · rw [w', Nat.one_mul] at e1; omega
      have e3 : 2 * (ent R a c).natAbs ≤ ((ent R done c).fdiv (ent R a c)).natAbs * (ent R a c).natAbs := Nat.mul_le_mul_right _ e2
      omega
    · have := m4 a (by omega) (by rw [passR_len]; exact l2) z
      rw [ea] at this
      omega
  · cases hm : leastAt (passR R done c a) (done + 1) c with
    | none => show 0 < (ent R a c).natAbs; omega
    | some a' =>
      obtain ⟨m1, m2, m3, _⟩ := leastAt_some hm
      have q := (sm a' (by omega) m2).1
      rw [ed] at q
      exact q
end
def CS (W n N done c B : Nat) (R : List Row) (t : Option Nat) : Prop := C1 W n N done c B R t ∨ C2 W n N done c B R t
section
variable {W n N done c B : Nat} {R : List Row} {t : Option Nat} {a : Nat}
theorem CS.next (h : CS W n N done c B R (some a)) : CS W n N done c B (passR R done c a) (leastAt (passR R done c a) (done + 1) c) ∧ meas (passR R done c a) c (leastAt (passR R done c a) (done + 1) c) < meas R c (some a) := by
  rcases h with h | h
  · exact ⟨.inr h.next.1, h.next.2⟩
  · exact ⟨.inr h.next.1, h.next.2⟩
theorem CS.len (h : CS W n N done c B R t) : R.length = N := h.elim (·.len) (·.len)
theorem CS.shp (h : CS W n N done c B R t) : Shp W n R := h.elim (·.shp) (·.shp)
theorem CS.at_ (h : CS W n N done c B R (some a)) : done ≤ a ∧ a < R.length ∧ ent R a c ≠ 0 := by
  rcases h with h | h
  · obtain ⟨l1, l2, l3, _⟩ := leastAt_some h.least.symm
    exact ⟨l1, l2, l3⟩
  · obtain ⟨l1, l2, l3, _⟩ := leastAt_some h.least.symm
    exact ⟨by omega, l2, l3⟩
theorem CS.bd (h : CS W n N done c B R t) : BdF done B R := by
  rcases h with h | h
  · obtain ⟨X, hX, hb, hB⟩ := h.bd
    refine hb.mono (Nat.le_trans ?_ hB)
    have : X * 1 ≤ X * X ^ 5 := Nat.mul_le_mul_left _ (Nat.one_le_pow _ _ hX)
    have e : X * X ^ 5 = X ^ 6 := by grind
    omega
  · obtain ⟨X, hb, hB, _⟩ := h.bd
    exact hb.mono hB
theorem CS.done_ (h : CS W n N done c B R none) : ∀ k, done < k → k < R.length → ent R k c = 0 := fun k h1 h2 => by
  rcases h with h | h
  · exact leastAt_none h.least.symm k (by omega) h2
  · exact leastAt_none h.least.symm k (by omega) h2
theorem clear_ind {P : List Row → Option Nat → Prop} (hs : ∀ R a, CS W n N done c B R (some a) → P R (some a) → P (passR R done c a) (leastAt (passR R done c a) (done + 1) c)) :
    ∀ (f : Nat) (R : List Row) (t : Option Nat), CS W n N done c B R t → P R t → meas R c t < f → CS W n N done c B (clearGo done c f R t) none ∧ P (clearGo done c f R t) none
  | 0, R, t, _, _, hf => by omega
  | f + 1, R, none, h, p, _ => ⟨h, p⟩
  | f + 1, R, some a, h, p, hf => by
    have hn := h.next
    exact clear_ind hs f _ _ hn.1 (hs R a h p) (by omega)
end
end SF
namespace SF
theorem fmod_pos {a b : Int} (h : 0 < b) : 0 ≤ a.fmod b ∧ a.fmod b < b := ⟨by rw [Int.fmod_eq_emod_of_nonneg _ (by omega)]; exact Int.emod_nonneg _ (by omega), Int.fmod_lt_of_pos _ h⟩
inductive Lat (n : Nat) (g : Nat → Nat → Int) : (Nat → Int) → Prop
  | zero : Lat n g (fun _ => 0)
  | add {f : Nat → Int} (k : Nat) (c : Int) : k < n → Lat n g f → Lat n g (fun j => f j + c * g k j)
theorem Lat.of {n : Nat} {g : Nat → Nat → Int} {f f' : Nat → Int} (h : Lat n g f) (e : ∀ j, f j = f' j) : Lat n g f' := by
  have : f = f' := funext e
  exact this ▸ h
theorem Lat.lin {n : Nat} {g : Nat → Nat → Int} {f f' : Nat → Int} (h : Lat n g f) (h' : Lat n g f') (c : Int) : Lat n g (fun j => f j + c * f' j) := by
  induction h' with
  | zero => exact h.of fun j => by simp
  | add k d hk _ ih => exact (ih.add k (c * d) hk).of fun j => by grind
theorem Lat.mem {n : Nat} {g : Nat → Nat → Int} {k : Nat} (hk : k < n) : Lat n g (g k) := (Lat.zero.add k 1 hk).of fun j => by omega
theorem Lat.sub {n m : Nat} {g g' : Nat → Nat → Int} (h : ∀ k, k < n → Lat m g' (g k)) {f : Nat → Int} (hf : Lat n g f) : Lat m g' f := by
  induction hf with
  | zero => exact .zero
  | add k c hk _ ih => exact ih.lin (h k hk) c
theorem Lat.mul {n : Nat} {g : Nat → Nat → Int} {f : Nat → Int} (h : Lat n g f) (c : Int) : Lat n g (fun j => c * f j) := (Lat.zero.lin h c).of fun j => by omega
theorem Lat.plus {n : Nat} {g : Nat → Nat → Int} {f f' : Nat → Int} (h : Lat n g f) (h' : Lat n g f') : Lat n g (fun j => f j + f' j) := (h.lin h' 1).of fun j => by omega
theorem Lat.minus {n : Nat} {g : Nat → Nat → Int} {f f' : Nat → Int} (h : Lat n g f) (h' : Lat n g f') : Lat n g (fun j => f j - f' j) := (h.lin h' (-1)).of fun j => by omega
theorem Lat.van {n : Nat} {g : Nat → Nat → Int} {f : Nat → Int} {j : Nat} (h : Lat n g f) (z : ∀ k, k < n → g k j = 0) : f j = 0 := by
  induction h with
  | zero => rfl
  | add k c hk _ ih => simp only [ih, z k hk]; omega
def pe (S : List Pt) (k j : Nat) : Int := vf (S.getD k []) j
abbrev LatS (S : List Pt) : (Nat → Int) → Prop := Lat S.length (pe S)
abbrev LatR (R : List Row) : (Nat → Int) → Prop := Lat R.length (ent R)
def SameLat (n : Nat) (g : Nat → Nat → Int) (m : Nat) (g' : Nat → Nat → Int) : Prop := ∀ f, Lat n g f ↔ Lat m g' f
theorem SameLat.of {n m : Nat} {g g' : Nat → Nat → Int} (h : ∀ k, k < n → Lat m g' (g k)) (h' : ∀ k, k < m → Lat n g (g' k)) : SameLat n g m g' := fun _ => ⟨Lat.sub h, Lat.sub h'⟩
def sumN (n : Nat) (f : Nat → Int) : Int := match n with
  | 0 => 0
  | n + 1 => sumN n f + f n
theorem sumN_congr {n : Nat} {f g : Nat → Int} (h : ∀ i, i < n → f i = g i) : sumN n f = sumN n g := by
  induction n with
  | zero => rfl
  | succ n ih => rw [sumN, sumN, ih fun i hi => h i (by omega), h n (by omega)]
theorem sumN_lin {n : Nat} {f g s : Nat → Int} (m : Int) : sumN n (fun i => (f i - m * g i) * s i) = sumN n (fun i => f i * s i) - m * sumN n (fun i => g i * s i) := by
  induction n with
  | zero => simp [sumN]
  | succ n ih => rw [sumN, sumN, sumN, ih]; grind
theorem sumN_mul {n : Nat} {f s : Nat → Int} (m : Int) : sumN n (fun i => (m * f i) * s i) = m * sumN n (fun i => f i * s i) := by
  induction n with
  | zero => simp [sumN]
  | succ n ih => rw [sumN, sumN, ih]; grind
theorem sumN_zero {n : Nat} {f : Nat → Int} (h : ∀ i, i < n → f i = 0) : sumN n f = 0 := by
  induction n with
  | zero => rfl
  | succ n ih => rw [sumN, ih fun i hi => h i (by omega), h n (by omega)]; rfl
theorem sumN_one {n k : Nat} {s : Nat → Int} (hk : k < n) : sumN n (fun i => (if i < n ∧ i = k then (1 : Int) else 0) * s i) = s k := by
  have gen : ∀ m, m ≤ n → sumN m (fun i => (if i < n ∧ i = k then (1 : Int) else 0) * s i) = if k < m then s k else 0 := by
    intro m
    induction m with
    | zero => intro _; rw [if_neg (by omega)]; rfl
    | succ m ih =>
      intro hm
      rw [sumN, ih (by omega)]
      by_cases e : m = k
      · subst e
        rw [if_neg (by omega), if_pos ⟨by omega, rfl⟩, if_pos (by omega)]
        omega
      · rw [if_neg (show ¬ (m < n ∧ m = k) from fun z => e z.2)]
        by_cases q : k < m
        · rw [if_pos q, if_pos (by omega)]; omega
        · rw [if_neg q, if_neg (by omega)]; omega
  rw [gen n (Nat.le_refl _), if_pos hk]
def cmb (S : List Pt) (cs : List Int) (j : Nat) : Int := sumN S.length fun i => vf cs i * pe S i j
theorem cmb_less {S : List Pt} {r o : Row} {m : Int} (h : r.2.length = o.2.length) (j : Nat) : cmb S (lessR r m o).2 j = cmb S r.2 j - m * cmb S o.2 j := by
  unfold cmb
  rw [← sumN_lin]
  exact sumN_congr fun i _ => by rw [vf_less2 h]
theorem cmb_times {S : List Pt} {cs : List Int} {m : Int} (j : Nat) : cmb S (timesP m cs) j = m * cmb S cs j := by
  unfold cmb
  rw [← sumN_mul]
  exact sumN_congr fun i _ => by rw [vf_times]
theorem cmb_unit {S : List Pt} {k : Nat} (h : k < S.length) (j : Nat) : cmb S (unitP S.length k) j = pe S k j := by
  unfold cmb
  rw [← sumN_one (s := fun i => pe S i j) h]
  exact sumN_congr fun i _ => by rw [vf_unit]
theorem cmb_sp (S : List Pt) (cs : List Int) : LatS S (cmb S cs) := by
  have gen : ∀ m, m ≤ S.length → LatS S (fun j => sumN m fun i => vf cs i * pe S i j) := by
    intro m
    induction m with
    | zero => intro _; exact .zero
    | succ m ih => intro hm; exact (ih (by omega)).add m (vf cs m) (by omega)
  exact gen S.length (Nat.le_refl _)
def Cc (S : List Pt) (R : List Row) : Prop := ∀ k, k < R.length → ∀ j, ent R k j = cmb S (row R k).2 j
section
variable {W n : Nat} {R : List Row} {done c a : Nat} {S : List Pt}
theorem cc_old (h : Cc S R) (h1 : done ≤ a) (h2 : a < R.length) {k : Nat} (hk : k < R.length) (j : Nat) : vf (oldR R done a k).1 j = cmb S (oldR R done a k).2 j := by
  unfold oldR
  split
  · exact h done (by omega) j
  · exact h k hk j
theorem cc_pass (s : Shp W n R) (h : Cc S R) (h1 : done ≤ a) (h2 : a < R.length) : Cc S (passR R done c a) := fun k hk j => by
  rw [passR_len] at hk
  unfold ent
  rw [passR_row h1 h2 hk]
  split
  · exact h k hk j
  · split
    · exact h a h2 j
    · have sh := shp_old s h1 h2 hk
      rw [vf_less (by rw [sh.1, s.pt _ h2]), cmb_less (by rw [sh.2, s.ct _ h2]), cc_old h h1 h2 hk j, ← h a h2 j]
      rfl
theorem sp_pass (s : Shp W n R) (h1 : done ≤ a) (h2 : a < R.length) : SameLat (passR R done c a).length (ent (passR R done c a)) R.length (ent R) := by
  have hl := passR_len R done c a
  have old_sp : ∀ k, k < R.length → LatR R (fun j => vf (oldR R done a k).1 j) := fun k hk => by
    unfold oldR
    split
    · exact Lat.mem (g := ent R) (k := done) (by omega)
    · exact Lat.mem (g := ent R) (k := k) hk
  refine .of (fun k hk => ?_) fun k hk => ?_
  · rw [hl] at hk
    by_cases e1 : k < done
    · exact (Lat.mem (g := ent R) hk).of fun j => by rw [ent_pass s h1 h2 hk, if_pos e1]
    · by_cases e2 : k = done
      · exact (Lat.mem (g := ent R) h2).of fun j => by rw [ent_pass s h1 h2 hk, if_neg e1, if_pos e2]
      · exact ((old_sp k hk).lin (Lat.mem (g := ent R) h2) (-((vf (oldR R done a k).1 c).fdiv (ent R a c)))).of fun j => by
          rw [ent_pass s h1 h2 hk, if_neg e1, if_neg e2]
          grind
  · have head : LatR (passR R done c a) (ent R a) := (Lat.mem (g := ent (passR R done c a)) (k := done) (by omega)).of fun j => by rw [ent_pass s h1 h2 (by omega), if_neg (by omega), if_pos rfl]
    have back : ∀ i, done < i → i < R.length → LatR (passR R done c a) (fun j => vf (oldR R done a i).1 j) := fun i q1 q2 =>
      ((Lat.mem (g := ent (passR R done c a)) (k := i) (by omega)).lin head ((vf (oldR R done a i).1 c).fdiv (ent R a c))).of fun j => by
        rw [ent_pass s h1 h2 q2, if_neg (by omega), if_neg (by omega)]
        grind
    by_cases e1 : k < done
    · exact (Lat.mem (g := ent (passR R done c a)) (k := k) (by omega)).of fun j => by rw [ent_pass s h1 h2 hk, if_pos e1]
    · by_cases e2 : k = a
      · rw [e2]; exact head
      · by_cases e3 : k = done
        · have := back a (by omega) h2
          refine this.of fun j => ?_
          unfold oldR
          rw [if_pos rfl, e3]
          rfl
        · have := back k (by omega) hk
          refine this.of fun j => ?_
          unfold oldR
          rw [if_neg e2]
          rfl
theorem zero_pass (s : Shp W n R) (h1 : done ≤ a) (h2 : a < R.length) {j : Nat} (z : ∀ k, done ≤ k → k < R.length → ent R k j = 0) : ∀ k, done ≤ k → k < (passR R done c a).length → ent (passR R done c a) k j = 0 := fun k q1 q2 => by
  rw [passR_len] at q2
  rw [ent_pass s h1 h2 q2, if_neg (by omega)]
  split
  · exact z a h1 h2
  · have zo : vf (oldR R done a k).1 j = 0 := by
      unfold oldR
      split
      · exact z done (Nat.le_refl _) (by omega)
      · exact z k q1 q2
    rw [zo, z a h1 h2]
    omega
end
structure Ech (R : List Row) (done c : Nat) (E : Nat → Nat) : Prop where
  dl : done ≤ R.length
  mono : ∀ i i', i < i' → i' < done → E i < E i'
  lt : ∀ i, i < done → E i < c
  zero : ∀ i j, i < done → j < E i → ent R i j = 0
  pos : ∀ i, i < done → 0 < ent R i (E i)
  red : ∀ i i', i < i' → i' < done → 0 ≤ ent R i (E i') ∧ ent R i (E i') < ent R i' (E i')
  below : ∀ k j, done ≤ k → k < R.length → j < c → ent R k j = 0
def xs (b : Nat) : Nat → Nat
  | 0 => b
  | c + 1 => 6 * xs b c + 4
def ys (b : Nat) : Nat → Nat
  | 0 => b
  | c + 1 => ys b c + xs b (c + 1) + 2
structure StOk (W : Nat) (S : List Pt) (b c : Nat) (R : List Row) (done : Nat) : Prop where
  len : R.length = S.length
  shp : Shp W S.length R
  cc : Cc S R
  sp : SameLat R.length (ent R) S.length (pe S)
  ech : ∃ E, Ech R done c E
  bd : BdF done (2 ^ xs b c) R
  bdA : BdF 0 (2 ^ ys b c) R
section
variable {W : Nat} {S : List Pt} {b c done : Nat} {R : List Row}
theorem StOk.c1 (h : StOk W S b c R done) : C1 W S.length S.length done c (2 ^ xs b (c + 1)) R (leastAt R done c) :=
  ⟨h.len, h.shp, rfl, _, Nat.one_le_two_pow, h.bd, by
    rw [xs, Nat.pow_add, ← Nat.pow_mul, Nat.mul_comm (xs b c) 6]
    have : 9 * 2 ^ (6 * xs b c) ≤ 2 ^ (6 * xs b c) * 2 ^ 4 := by omega
    exact this⟩
structure ClOk (W : Nat) (S : List Pt) (b c : Nat) (R0 R : List Row) (done : Nat) : Prop where
  len : R.length = S.length
  shp : Shp W S.length R
  cc : Cc S R
  sp : SameLat R.length (ent R) S.length (pe S)
  keep : ∀ k, k < done → row R k = row R0 k
  below : ∀ k j, done ≤ k → k < R.length → j < c → ent R k j = 0
  col : ∀ k, done < k → k < R.length → ent R k c = 0
  bd : BdF done (2 ^ xs b (c + 1)) R
theorem StOk.cleared (h : StOk W S b c R done) : ClOk W S b c R (clearedR R done c) done := by
  obtain ⟨E, he⟩ := h.ech
  have q := clear_ind (W := W) (n := S.length) (N := S.length) (done := done) (c := c) (B := 2 ^ xs b (c + 1))
    (P := fun R' _ => Cc S R' ∧ SameLat R'.length (ent R') S.length (pe S) ∧ (∀ k, k < done → row R' k = row R k) ∧ ∀ k j, done ≤ k → k < R'.length → j < c → ent R' k j = 0)
    (fun R' a hc hp => by
      obtain ⟨l1, l2, l3⟩ := hc.at_
      obtain ⟨p1, p2, p3, p4⟩ := hp
      refine ⟨cc_pass hc.shp p1 l1 l2, fun f => (sp_pass hc.shp l1 l2 f).trans (p2 f), fun k hk => ?_, fun k j q1 q2 q3 => zero_pass hc.shp l1 l2 (fun k q1 q2 => p4 k j q1 q2 q3) k q1 q2⟩
      rw [passR_row l1 l2 (by omega), if_pos hk]
      exact p3 k hk)
    (meas R c (leastAt R done c) + 1) R (leastAt R done c) (.inl h.c1) ⟨h.cc, h.sp, fun _ _ => rfl, fun k j q1 q2 q3 => he.below k j q1 q2 q3⟩ (Nat.lt_succ_self _)
  obtain ⟨q1, q2, q3, q4, q5⟩ := q
  exact ⟨q1.len, q1.shp, q2, q3, q4, q5, q1.done_, q1.bd⟩
structure PosOk (W : Nat) (S : List Pt) (b c : Nat) (R0 R : List Row) (done : Nat) : Prop where
  cl : ClOk W S b c R0 R done
  lt : done < R.length
  pos : 0 < ent R done c
theorem ClOk.pos {R0 : List Row} (h : ClOk W S b c R0 R done) (hl : done < R.length) (hz : ent R done c ≠ 0) : PosOk W S b c R0 (posR R done c) done := by
  unfold posR
  by_cases hn : ent R done c < 0
  · rw [if_pos hn]
    have e1 : ∀ k, row (R.set done (negR (row R done))) k = if k = done then negR (row R done) else row R k := fun k => by
      by_cases e : k = done
      · subst e; rw [row_set_eq hl, if_pos rfl]
      · rw [row_set_ne (Ne.symm e), if_neg e]
    have ent1 : ∀ k j, ent (R.set done (negR (row R done))) k j = if k = done then -ent R k j else ent R k j := fun k j => by
      unfold ent
      rw [e1]
      split
      · rename_i e; subst e
        show vf (timesP (-1) (row R k).1) j = _
        rw [vf_times]; omega
      · rfl
    have len1 : (R.set done (negR (row R done))).length = R.length := by simp
    refine ⟨⟨by rw [len1]; exact h.len, ⟨fun k hk => ?_, fun k hk => ?_⟩, fun k hk j => ?_, fun f => Iff.trans ?_ (h.sp f), fun k hk => ?_, fun k j q1 q2 q3 => ?_, fun k q1 q2 => ?_, fun k q1 q2 => ?_⟩, by rw [len1]; exact hl, ?_⟩
    · rw [len1] at hk
      rw [e1]; split
      · show (timesP (-1) (row R done).1).length = W
        rw [timesP_len]; exact h.shp.pt _ hl
      · exact h.shp.pt _ hk
    · rw [len1] at hk
      rw [e1]; split
      · show (timesP (-1) (row R done).2).length = _
        rw [timesP_len]; exact h.shp.ct _ hl
      · exact h.shp.ct _ hk
    · rw [len1] at hk
      rw [ent1, e1]; split
      · rename_i e; subst e
        show _ = cmb S (timesP (-1) (row R k).2) j
        rw [cmb_times, ← h.cc k hk j]; omega
      · exact h.cc k hk j
    · have same : SameLat (R.set done (negR (row R done))).length (ent (R.set done (negR (row R done)))) R.length (ent R) := .of (fun k hk => by
          rw [len1] at hk
          by_cases e : k = done
          · exact ((Lat.mem (g := ent R) hk).mul (-1)).of fun j => by rw [ent1, if_pos e]; omega
          · exact (Lat.mem (g := ent R) hk).of fun j => by rw [ent1, if_neg e]) fun k hk => by
          by_cases e : k = done
          · exact ((Lat.mem (g := ent (R.set done (negR (row R done)))) (k := k) (by omega)).mul (-1)).of fun j => by rw [ent1, if_pos e]; omega
          · exact (Lat.mem (g := ent (R.set done (negR (row R done)))) (k := k) (by omega)).of fun j => by rw [ent1, if_neg e]
      exact same f
    · rw [e1, if_neg (by omega)]; exact h.keep k hk
    · rw [len1] at q2
      rw [ent1]; split
      · rw [h.below k j q1 q2 q3]; rfl
      · exact h.below k j q1 q2 q3
    · rw [len1] at q2
      rw [ent1, if_neg (by omega)]; exact h.col k q1 q2
    · rw [len1] at q2
      have hb := h.bd k q1 q2
      rw [e1]
      split
      · rename_i e; subst e
        refine ⟨fun j => ?_, fun j => ?_⟩
        · show (vf (timesP (-1) (row R k).1) j).natAbs ≤ _
          rw [vf_times]; have := hb.1 j; omega
        · show (vf (timesP (-1) (row R k).2) j).natAbs ≤ _
          rw [vf_times]; have := hb.2 j; omega
      · exact hb
    · rw [ent1, if_pos rfl]; omega
  · rw [if_neg hn]
    exact ⟨h, hl, by omega⟩
theorem up_bd {x y q : Int} {Y X : Nat} (hx : x.natAbs ≤ Y) (hq : q.natAbs ≤ Y + 1) (hy : y.natAbs ≤ X) : (x - q * y).natAbs ≤ Y + (Y + 1) * X := by
  have h1 : (q * y).natAbs ≤ (Y + 1) * X := by rw [Int.natAbs_mul]; exact Nat.mul_le_mul hq hy
  have h2 : (x - q * y).natAbs ≤ x.natAbs + (q * y).natAbs := by omega
  omega
theorem pow_up {y x : Nat} : 2 ^ y + (2 ^ y + 1) * 2 ^ x ≤ 2 ^ (y + x + 2) := by
  have h1 : 1 ≤ 2 ^ y := Nat.one_le_two_pow
  have h2 : 1 ≤ 2 ^ x := Nat.one_le_two_pow
  have e : 2 ^ (y + x + 2) = 4 * (2 ^ y * 2 ^ x) := by rw [Nat.pow_add, Nat.pow_add]; omega
  have h3 : 2 ^ y * 1 ≤ 2 ^ y * 2 ^ x := Nat.mul_le_mul_left _ h2
  have h4 : 1 * 2 ^ x ≤ 2 ^ y * 2 ^ x := Nat.mul_le_mul_right _ h1
  rw [e, Nat.add_mul]
  omega
theorem fd_le (a : Int) {d : Int} {Y : Nat} (hd : d ≠ 0) (h : a.natAbs ≤ Y) : (a.fdiv d).natAbs ≤ Y + 1 := by
  have h1 := fd_abs a hd
  have h2 : a.natAbs / d.natAbs ≤ a.natAbs := Nat.div_le_self _ _
  omega
theorem StOk.next (h : StOk W S b c R done) : StOk W S b (c + 1) (colStep (R, done) c).1 (colStep (R, done) c).2 := by
  have hC := h.cleared
  obtain ⟨E, he⟩ := h.ech
  have keepE : ∀ k j, k < done → ent (clearedR R done c) k j = ent R k j := fun k j hk => by unfold ent; rw [hC.keep k hk]
  have keepB : BdF 0 (2 ^ ys b (c + 1)) (clearedR R done c) := fun k _ hk => by
    by_cases e : k < done
    · rw [hC.keep k e]
      have := h.bdA k (Nat.zero_le _) (by have := he.dl; omega)
      have e2 : 2 ^ ys b c ≤ 2 ^ ys b (c + 1) := Nat.pow_le_pow_right (by omega) (by rw [ys]; omega)
      exact ⟨fun j => Nat.le_trans (this.1 j) e2, fun j => Nat.le_trans (this.2 j) e2⟩
    · have := hC.bd k (by omega) hk
      have e2 : 2 ^ xs b (c + 1) ≤ 2 ^ ys b (c + 1) := Nat.pow_le_pow_right (by omega) (by rw [ys]; omega)
      exact ⟨fun j => Nat.le_trans (this.1 j) e2, fun j => Nat.le_trans (this.2 j) e2⟩
  have hl := hC.len
  have hl0 := h.len
  unfold colStep
  by_cases hcond : done < (clearedR R done c).length ∧ ent (clearedR R done c) done c ≠ 0
  · rw [if_pos hcond]
    have hP := hC.pos hcond.1 hcond.2
    have hlen1 : (posR (clearedR R done c) done c).length = S.length := hP.cl.len
    generalize hV : posR (clearedR R done c) done c = V at hP hlen1
    have up := fun k => upN_row (R := V) (done := done) (c := c) hP.lt (i := done) (Nat.le_refl _) k
    have ulen : (upN V done c done).length = V.length := upN_len V done c done
    have hpv := hP.pos
    have uent : ∀ k j, k < V.length → ent (upN V done c done) k j = if k < done then ent V k j - ((ent V k c).fdiv (ent V done c)) * ent V done j else ent V k j := fun k j hk => by
      unfold ent
      rw [up]
      split
      · exact vf_less (by rw [hP.cl.shp.pt _ hk, hP.cl.shp.pt _ hP.lt]) j
      · rfl
    have vE : ∀ k j, k < done → ent V k j = ent R k j := fun k j hk => by unfold ent; rw [hP.cl.keep k hk]
    have dz : ∀ j, j < c → ent V done j = 0 := fun j hj => hP.cl.below done j (Nat.le_refl _) hP.lt hj
    have uE : ∀ i j, i < done → j < c → ent (upN V done c done) i j = ent R i j := fun i j hi hj => by
      have := hP.lt
      rw [uent i j (by omega), if_pos hi, dz j hj, vE i j hi]; omega
    have vB : ∀ k, k < done → (∀ j, (vf (row V k).1 j).natAbs ≤ 2 ^ ys b c) ∧ ∀ j, (vf (row V k).2 j).natAbs ≤ 2 ^ ys b c := fun k hk => by
      rw [hP.cl.keep k hk]
      exact h.bdA k (Nat.zero_le _) (by have := he.dl; omega)
    have qB : ∀ k, k < done → ((ent V k c).fdiv (ent V done c)).natAbs ≤ 2 ^ ys b c + 1 := fun k hk => fd_le _ (by omega) ((vB k hk).1 c)
    have dB := hP.cl.bd done (Nat.le_refl _) hP.lt
    refine ⟨by rw [ulen]; exact hlen1, ⟨fun k hk => ?_, fun k hk => ?_⟩, fun k hk j => ?_, fun f => Iff.trans ?_ (hP.cl.sp f), ⟨fun i => if i = done then c else E i, ?_⟩, fun k q1 q2 => ?_, fun k q1 q2 => ?_⟩
    · rw [ulen] at hk
      rw [up]; split
      · exact (shp_less (hP.cl.shp.pt _ hk) (hP.cl.shp.ct _ hk) (hP.cl.shp.pt _ hP.lt) (hP.cl.shp.ct _ hP.lt)).1
      · exact hP.cl.shp.pt _ hk
    · rw [ulen] at hk
      rw [up]; split
      · exact (shp_less (hP.cl.shp.pt _ hk) (hP.cl.shp.ct _ hk) (hP.cl.shp.pt _ hP.lt) (hP.cl.shp.ct _ hP.lt)).2
      · exact hP.cl.shp.ct _ hk
    · rw [ulen] at hk
      rw [uent k j hk, up]; split
      · rw [cmb_less (by rw [hP.cl.shp.ct _ hk, hP.cl.shp.ct _ hP.lt]), ← hP.cl.cc k hk j, ← hP.cl.cc done hP.lt j]
      · exact hP.cl.cc k hk j
    · have same : SameLat (upN V done c done).length (ent (upN V done c done)) V.length (ent V) := by
        have hd : LatR (upN V done c done) (ent V done) := (Lat.mem (g := ent (upN V done c done)) (k := done) (by rw [ulen]; exact hP.lt)).of fun j => by rw [uent done j hP.lt, if_neg (by omega)]
        refine .of (fun k hk => ?_) fun k hk => ?_
        · rw [ulen] at hk
          by_cases e : k < done
          · exact ((Lat.mem (g := ent V) hk).lin (Lat.mem (g := ent V) hP.lt) (-((ent V k c).fdiv (ent V done c)))).of fun j => by rw [uent k j hk, if_pos e]; grind
          · exact (Lat.mem (g := ent V) hk).of fun j => by rw [uent k j hk, if_neg e]
        · by_cases e : k < done
          · exact ((Lat.mem (g := ent (upN V done c done)) (k := k) (by omega)).lin hd ((ent V k c).fdiv (ent V done c))).of fun j => by rw [uent k j hk, if_pos e]; grind
          · exact (Lat.mem (g := ent (upN V done c done)) (k := k) (by omega)).of fun j => by rw [uent k j hk, if_neg e]
      exact same f
    · have hlt := hP.lt
      constructor
      · show done + 1 ≤ (upN V done c done).length
        rw [ulen]; exact hlt
      · intro i i' h1 h2
        by_cases e : i' = done
        · subst e; rw [if_neg (by omega), if_pos rfl]; exact he.lt i h1
        · rw [if_neg (by omega), if_neg e]; exact he.mono i i' h1 (by omega)
      · intro i h1
        by_cases e : i = done
        · rw [if_pos e]; omega
        · rw [if_neg e]; have := he.lt i (by omega); omega
      · intro i j h1 h2
        by_cases e : i = done
        · subst e
          rw [if_pos rfl] at h2
          rw [uent i j hlt, if_neg (by omega)]; exact dz j h2
        · rw [if_neg e] at h2
          have hi : i < done := by omega
          have := he.lt i hi
          rw [uE i j hi (by omega)]; exact he.zero i j hi h2
      · intro i h1
        by_cases e : i = done
        · subst e
          rw [if_pos rfl, uent i c hlt, if_neg (by omega)]; exact hpv
        · rw [if_neg e]
          have hi : i < done := by omega
          rw [uE i _ hi (he.lt i hi)]; exact he.pos i hi
      · intro i i' h1 h2
        by_cases e : i' = done
        · subst e
          rw [if_pos rfl, uent i c (by omega), if_pos h1, uent i' c hlt, if_neg (by omega)]
          have hr := fd_rem (ent V i c) (show ent V i' c ≠ 0 by omega)
          have hs : 0 ≤ ent V i c - (ent V i c).fdiv (ent V i' c) * ent V i' c := by
            by_cases z : 0 ≤ ent V i c - (ent V i c).fdiv (ent V i' c) * ent V i' c
            · exact z
            · have := Int.mul_neg_of_neg_of_pos (show ent V i c - (ent V i c).fdiv (ent V i' c) * ent V i' c < 0 by omega) hpv
              omega
          omega
        · rw [if_neg e]
          have hi' : i' < done := by omega
          have := he.lt i' hi'
          rw [uE i _ (by omega) this, uE i' _ hi' this]; exact he.red i i' h1 hi'
      · intro k j h1 h2 h3
        rw [ulen] at h2
        rw [uent k j h2, if_neg (by omega)]
        by_cases e : j = c
        · subst e; exact hP.cl.col k (by omega) h2
        · exact hP.cl.below k j (by omega) h2 (by omega)
    · rw [ulen] at q2
      rw [up, if_neg (by omega)]
      exact hP.cl.bd k (by omega) q2
    · rw [ulen] at q2
      rw [up]; split
      · rename_i e
        have r1 := hP.cl.shp.pt _ q2
        refine ⟨fun j => ?_, fun j => ?_⟩
        · rw [vf_less (by rw [r1, hP.cl.shp.pt _ hP.lt])]
          exact Nat.le_trans (up_bd ((vB k e).1 j) (qB k e) (dB.1 j)) (by rw [ys]; exact pow_up)
        · rw [vf_less2 (by rw [hP.cl.shp.ct _ q2, hP.cl.shp.ct _ hP.lt])]
          exact Nat.le_trans (up_bd ((vB k e).2 j) (qB k e) (dB.2 j)) (by rw [ys]; exact pow_up)
      · have := hP.cl.bd k (by omega) q2
        have e2 : 2 ^ xs b (c + 1) ≤ 2 ^ ys b (c + 1) := Nat.pow_le_pow_right (by omega) (by rw [ys]; omega)
        exact ⟨fun j => Nat.le_trans (this.1 j) e2, fun j => Nat.le_trans (this.2 j) e2⟩
  · rw [if_neg hcond]
    refine ⟨hl, hC.shp, hC.cc, hC.sp, ⟨E, ?_⟩, hC.bd, keepB⟩
    have hdl := he.dl
    constructor
    · show done ≤ (clearedR R done c).length; omega
    · exact fun i i' h1 h2 => he.mono i i' h1 h2
    · exact fun i h1 => by have := he.lt i h1; omega
    · exact fun i j h1 h2 => by rw [keepE i j h1]; exact he.zero i j h1 h2
    · exact fun i h1 => by rw [keepE i _ h1]; exact he.pos i h1
    · exact fun i i' h1 h2 => by
        have h2' : i' < done := h2
        rw [keepE i _ (by omega), keepE i' _ h2']; exact he.red i i' h1 h2
    · intro k j h1 h2 h3
      by_cases e : j = c
      · subst e
        by_cases e2 : k = done
        · subst e2
          by_cases z : ent (clearedR R k j) k j = 0
          · exact z
          · exact absurd ⟨h2, z⟩ hcond
        · have h1' : done ≤ k := h1
          exact hC.col k (by omega) h2
      · exact hC.below k j h1 h2 (by omega)
end
structure StepsOk (W b : Nat) (S : List Pt) : Prop where
  len : ∀ k, k < S.length → (S.getD k []).length = W
  bd : ∀ k, k < S.length → Bd b (S.getD k [])
theorem vf_bd {b : Nat} {p : Pt} (h : Bd b p) (j : Nat) : (vf p j).natAbs < 2 ^ b := by
  by_cases hj : j < p.length
  · exact h _ (List.mem_of_getElem? (get_vf hj))
  · rw [vf_beyond (by omega)]
    exact Nat.pow_pos (by omega)
theorem initR_row {S : List Pt} {k : Nat} (hk : k < S.length) : row (initR S) k = (S.getD k [], unitP S.length k) := by
  unfold row initR
  rw [List.getD_eq_getElem?_getD, List.getElem?_map, List.getElem?_range hk]
  rfl
theorem initR_len (S : List Pt) : (initR S).length = S.length := by simp [initR]
theorem stOk_init {W b : Nat} {S : List Pt} (h : StepsOk W b S) : StOk W S b 0 (initR S) 0 := by
  have il := initR_len S
  have ie : ∀ k j, k < S.length → ent (initR S) k j = pe S k j := fun k j hk => by unfold ent pe; rw [initR_row hk]
  have ib : BdF 0 (2 ^ b) (initR S) := fun k _ hk => by
    rw [il] at hk
    rw [initR_row hk]
    refine ⟨fun j => Nat.le_of_lt (vf_bd (h.bd k hk) j), fun j => ?_⟩
    show (vf (unitP S.length k) j).natAbs ≤ _
    rw [vf_unit]
    have : 1 ≤ 2 ^ b := Nat.one_le_two_pow
    split <;> omega
  refine ⟨il, ⟨fun k hk => ?_, fun k hk => ?_⟩, fun k hk j => ?_, ?_, ⟨fun _ => 0, ?_⟩, ib, ib⟩
  · rw [il] at hk; rw [initR_row hk]; exact h.len k hk
  · rw [il] at hk; rw [initR_row hk]; exact unitP_len _ _
  · rw [il] at hk; rw [ie k j hk, initR_row hk]; exact (cmb_unit hk j).symm
  · refine .of (fun k hk => ?_) fun k hk => ?_
    · rw [il] at hk
      exact (Lat.mem (g := pe S) hk).of fun j => (ie k j hk).symm
    · exact (Lat.mem (g := ent (initR S)) (k := k) (by rw [il]; exact hk)).of fun j => ie k j hk
  · exact ⟨Nat.zero_le _, fun _ _ _ h => absurd h (Nat.not_lt_zero _), fun _ h => absurd h (Nat.not_lt_zero _), fun _ _ h => absurd h (Nat.not_lt_zero _), fun _ h => absurd h (Nat.not_lt_zero _), fun _ _ _ h => absurd h (Nat.not_lt_zero _), fun _ _ _ _ h => absurd h (Nat.not_lt_zero _)⟩
theorem stOk_all {W b : Nat} {S : List Pt} (h : StepsOk W b S) : ∀ c, StOk W S b c (stairN S c).1 (stairN S c).2
  | 0 => stOk_init h
  | c + 1 => by
    have := (stOk_all h c).next
    rw [stairN]
    exact this
end SF
namespace SF
theorem bd_of {b : Nat} {p : Pt} (h : ∀ j, (vf p j).natAbs ≤ 2 ^ b) : Bd (b + 1) p := fun x hx => by
  obtain ⟨j, hj⟩ := List.mem_iff_getElem?.mp hx
  have := h j
  rw [vf_get hj] at this
  have e : 2 ^ (b + 1) = 2 * 2 ^ b := by rw [Nat.pow_succ, Nat.mul_comm]
  have : 0 < 2 ^ b := Nat.pow_pos (by omega)
  omega
theorem q_bd {x d : Int} {b : Nat} (hd : d ≠ 0) (h : x.natAbs ≤ 2 ^ b) : (x.fdiv d).natAbs < 2 ^ (b + 2) := by
  have h1 := fd_le x hd h
  have e : 2 ^ (b + 2) = 4 * 2 ^ b := by rw [Nat.pow_add, Nat.mul_comm]
  have : 0 < 2 ^ b := Nat.pow_pos (by omega)
  omega
end SF
namespace SF
theorem xs_mono (b : Nat) : ∀ {c c' : Nat}, c ≤ c' → xs b c ≤ xs b c' := fun {c c'} h => by
  induction h with
  | refl => exact Nat.le_refl _
  | step _ ih => rw [xs]; omega
theorem ys_mono (b : Nat) : ∀ {c c' : Nat}, c ≤ c' → ys b c ≤ ys b c' := fun {c c'} h => by
  induction h with
  | refl => exact Nat.le_refl _
  | step _ ih => rw [ys]; omega
theorem colStep_no {S : List Row × Nat} {c : Nat} (h : ¬ (S.2 < (clearedR S.1 S.2 c).length ∧ ent (clearedR S.1 S.2 c) S.2 c ≠ 0)) : colStep S c = (clearedR S.1 S.2 c, S.2) := by unfold colStep; rw [if_neg h]
theorem colStep_yes {S : List Row × Nat} {c : Nat} (h : S.2 < (clearedR S.1 S.2 c).length ∧ ent (clearedR S.1 S.2 c) S.2 c ≠ 0) : colStep S c = (upN (posR (clearedR S.1 S.2 c) S.2 c) S.2 c S.2, S.2 + 1) := by unfold colStep; rw [if_pos h]
end SF
namespace SF
open PySem PySem.Spec PyProof.Rows L2
section
variable {X : Cx}
def rAddA (K : PySem.W.Frag) : R2 := fun x y H Q => (rI0 (fun i j => .int (i + j))) x y H Q ∨ ((rCat x y H Q ∨ (rCatZ K x y H Q ∨ (∃ i j, x = .str i ∧ y = .str j ∧ i.length + j.length ≤ sizeLine ∧ Q (.str (i ++ j)) H))))
theorem opAdd : OpR X (binaryOp .Add) (rAddA X.K) := op_add.or (op_cat.or (op_catZ.or op_add_str))
def rMulA : R2 := fun x y H Q => (rI CMulB (fun i j => .int (i * j))) x y H Q ∨ rRep x y H Q
theorem opMul : OpR X (binaryOp .Mult) rMulA := op_mulB.or op_rep
def rSlAny (K : PySem.W.Frag) : V → Option Int → Option Int → Hp → VK → Prop := fun x lo hi H Q => rSlL K x lo hi H Q ∨ (rSlZ K x lo hi H Q ∨ rSlS x lo hi H Q)
theorem slAny : SlR X (rSlAny X.K) := sl_list.or (sl_tupZ.or sl_str)
structure Cal (P : Program) (w : World) (K : PySem.W.Frag) (mg : Str → Option Value) (base : Heap) (k : Nat) (x : Str) (ps : List Str) (sp : Sp) : Prop where
  ex : ∃ (f : Addr) (fd : FuncData), FnOk P w K mg base CX0 k f fd ps sp ∧ mg x = some (.ref f) ∧ PySem.W.keepIn K (.ref f) = true ∧ Binds K fd ps []
theorem pe_cal {k j : Nat} {x : Str} {ps : List Str} {sp : Sp} {e : Expr} {es : List Expr} {t : TA} {p pos : Pos} (C : Cal X.prog X.w X.K X.mg X.base k x ps sp) (hr : Room j X.A) (hk : k ≤ j) (hg : Gl X x) (ha : PA X (e :: es) t)
    (hdb : (x == ("__debug__" : Str)) = false := by decide) (he : starEach (e :: es) X.env = (false, eval e X.env) :: starEach es X.env := by rfl) (hpl : (backTo pos (starEach es X.env)).any (·.1) = false := by rfl) :
    PE X (.Call (.Name x p) (e :: es) [] pos) (tCall sp [] E0 t) := by
  obtain ⟨f, fd, F, hm, hkp, hb⟩ := C.ex
  exact pe_call F (hr.mono hk) hg hm hkp hb .nil pass0 ha hdb he hpl
end
section
variable {K : PySem.W.Frag} {σ : L2.St} {H H' : Hp} {ta tb te : TE} {d d1 d2 : PyData} {ds es : List PyData}
theorem rd_addI {i j : Int} : RD K (rAddA K) (.int i) (.int j) (.int (i + j)) := rd_orL rd_I0
theorem rd_addT (h : ds.length + es.length ≤ 100000) : RD K (rAddA K) (.tuple ds) (.tuple es) (.tuple (ds ++ es)) := fun x y H hx hy Q q => by
  obtain ⟨a, xs, rfl, hs, ha⟩ := dp_tup hx
  obtain ⟨b, ys, rfl, hs2, hb⟩ := dp_tup hy
  refine .inr (.inr (.inl ⟨a, b, xs, ys, rfl, rfl, hs.sq, hs2.sq, Evl.sz_of (by rw [ha.len, hb.len]; exact h), fun e => ?_, fun _ e => ?_, fun _ _ p o hp ho => ?_⟩))
  · have ha' : ds = [] := by
      have := ha.len
      rw [e] at this
      exact List.length_eq_zero_iff.mp this.symm
    subst ha'
    exact q _ _ ex_refl (.tup hs2 hb)
  · have hb' : es = [] := by
      have := hb.len
      rw [e] at this
      exact List.length_eq_zero_iff.mp this.symm
    subst hb'
    rw [List.append_nil] at q
    exact q _ _ ex_refl (.tup hs ha)
  · exact q _ _ (ex_new hp) (.tup ⟨o, upd_same, ho⟩ ((ha.app hb).up (ex_new hp)))
theorem ef_addL (ha : EvL K ta σ H ds) (hb : EvL K tb σ H es) (h : ds.length + es.length ≤ 100000) : EvF K (tOp (rAddA K) ta tb) σ H (ds ++ es) := fun H1 e Q q =>
  ha H1 e _ fun p xs H2 e2 hp hx => hb H2 (ex_tr e e2) _ fun p' ys H3 e3 hp' hy =>
    .inr (.inl ⟨p, p', xs, ys, rfl, rfl, e3 p _ hp, hp', Evl.sz_of (by rw [hx.len, hy.len]; exact h), fun z hz => q z _ _ (ex_back (ex_tr e2 e3) hz) (ex_tr e2 (ex_tr e3 (ex_new hz))) upd_same (((hx.up e3).app hy).up (ex_new hz))⟩)
theorem rd_mulI {i j : Int} (h : CMulB i j) : RD K rMulA (.int i) (.int j) (.int (i * j)) := rd_orL (rd_I h)
theorem eo_none : EvO K tNoPart σ H none := fun H1 _ _ q => q H1 ex_refl
variable (K) in
theorem eo_some {i : Int} (h : EvD K te σ H (.int i)) : EvO K (tPart te) σ H (some i) := fun H1 e _ q => h H1 e _ fun v H2 e2 hv => ⟨i, dp_int hv, q H2 e2⟩
def cutD (ds : List PyData) (lo hi : Option Int) : List PyData := (ds.drop (HT.sIx ds.length 0 lo)).take (HT.sIx ds.length ds.length hi - HT.sIx ds.length 0 lo)
theorem cut_all {H : Hp} {xs : List V} {lo hi : Option Int} (h : DdAll K H xs ds) : DdAll K H (cutV xs lo hi) (cutD ds lo hi) := by
  unfold cutV cutD
  rw [h.len]
  exact (h.dropN _).takeN _
theorem ef_sl {tl th : TO} {lo hi : Option Int} (h : EvD K te σ H (.list ds)) (h1 : EvO K tl σ H lo) (h2 : EvO K th σ H hi) : EvF K (tSl (rSlAny K) te tl th) σ H (cutD ds lo hi) := fun H1 e Q q =>
  h H1 e _ fun v H2 e2 hv => h1 H2 (ex_tr e e2) _ fun H3 e3 => h2 H3 (ex_tr e (ex_tr e2 e3)) _ fun H4 e4 => by
    obtain ⟨a, xs, rfl, hs, ha⟩ := dp_lst (hv.up (ex_tr e3 e4))
    exact .inl ⟨a, xs, rfl, hs, fun p hp => q p _ _ (ex_back (ex_tr e2 (ex_tr e3 e4)) hp) (ex_tr e2 (ex_tr e3 (ex_tr e4 (ex_new hp)))) upd_same ((cut_all ha).up (ex_new hp))⟩
theorem ev_slT {tl th : TO} {lo hi : Option Int} (h : EvD K te σ H (.tuple ds)) (h1 : EvO K tl σ H lo) (h2 : EvO K th σ H hi) : EvD K (tSl (rSlAny K) te tl th) σ H (.tuple (cutD ds lo hi)) := fun H1 e Q q =>
  h H1 e _ fun v H2 e2 hv => h1 H2 (ex_tr e e2) _ fun H3 e3 => h2 H3 (ex_tr e (ex_tr e2 e3)) _ fun H4 e4 => by
    obtain ⟨a, xs, rfl, hs, ha⟩ := dp_tup (hv.up (ex_tr e3 e4))
    refine .inr (.inl ⟨a, xs, rfl, hs.sq, fun z => ?_, fun _ p o hp ho => ?_⟩)
    · refine q _ _ (ex_tr e2 (ex_tr e3 e4)) (.tup hs ?_)
      have : cutV xs lo hi = xs := by
        unfold cutV
        rw [z.1, z.2]
        simp
      rw [← this]
      exact cut_all ha
    · exact q _ _ (ex_tr e2 (ex_tr e3 (ex_tr e4 (ex_new hp)))) (.tup ⟨o, upd_same, ho⟩ ((cut_all ha).up (ex_new hp)))
theorem cutD_take {n : Nat} : cutD ds none (some (n : Int)) = ds.take n := by
  unfold cutD
  rw [HT.sIx_none, HT.sIx_nat]
  simp [List.take_take]
theorem cutD_drop {n : Nat} : cutD ds (some (n : Int)) none = ds.drop n := by
  unfold cutD
  rw [HT.sIx_none, HT.sIx_nat]
  by_cases h : n ≤ ds.length
  · rw [Nat.min_eq_left h, ← List.length_drop, List.take_length]
  · have h' : ds.length ≤ n := by omega
    rw [Nat.min_eq_right h']
    simp [List.drop_eq_nil_of_le h']
def rInt1 : List V → Hp → VK → Prop := fun xs H Q => (∃ i, xs = [.int i] ∧ Q (.int i) H) ∨ ∃ k, xs = [.bl k] ∧ Q (.int (if k then 1 else 0)) H
theorem rc_int1 {b : Bool} : RC K rInt1 [.bool b] (.int (if b then 1 else 0)) := fun vs H hv Q q => by
  cases hv with
  | cons h1 h2 => cases h1; cases h2; exact .inr ⟨b, rfl, q _ H ex_refl (.int _)⟩
theorem callInt1 {X : Cx} : CallR X (.type "int") rInt1 := call_int1
theorem rc_max {i j : Int} : RC K (fun xs H Q => ∃ i j, xs = [.int i, .int j] ∧ Q (.int (if j > i then j else i)) H) [.int i, .int j] (.int (if j > i then j else i)) := fun vs H hv Q q => by
  cases hv with
  | cons h1 h2 => cases h2 with
    | cons h3 h4 => cases h1; cases h3; cases h4; exact ⟨i, j, rfl, q _ H ex_refl (.int _)⟩
def tyN : PyData → String
  | .none => "NoneType"
  | .bool _ => "bool"
  | .int _ => "int"
  | .str _ => "str"
  | .list _ => "list"
  | .tuple _ => "tuple"
  | .dict _ => "dict"
theorem tyX_of {v : V} (h : Dd K H v d) : TyX K H v (.type (tyN d)) := by
  cases h with
  | non => exact .base .non
  | bl b => exact .base (.bl b)
  | int i => exact .base (.int i)
  | str x => exact .base (.str x)
  | lst hs _ =>
    rcases hs with (h | ⟨o, h⟩) | ⟨o, its, n, h1, h2, _⟩
    · exact .base (.lst h)
    · exact .base (.frz h)
    · exact .kList h1 h2
  | tup hs _ =>
    obtain ⟨o, h, _⟩ := hs
    exact .fTuple h
theorem ev_isi {n : String} {b : Bool} (h : EvD K ta σ H d) (hk : kitB (tyN d) n = some b) : EvD K (tCB (rIsi K) (tCons ta (tCons (tC (.ty n)) tNil))) σ H (.bool b) := fun H1 e Q q =>
  h H1 e _ fun v H2 e2 hv => ⟨v, .ty n, _, _, b, rfl, .ty n, tyX_of hv, kit_ty hk, q _ H2 e2 (.bl _)⟩
theorem ev_countT {k : Int} {ns : List Int} (h : EvD K ta σ H (.tuple (ns.map .int))) (hk : EvD K tb σ H (.int k)) : EvD K (tBMZ (rCntT K) ta (tCons tb tNil)) σ H (.int (ns.count k : Nat)) := fun H1 e Q q =>
  h H1 e _ fun v H2 e2 hv => by
    obtain ⟨a, xs, rfl, hs, ha⟩ := dp_tup hv
    rw [dp_ints ha] at hs
    refine ⟨⟨_, _, rfl, hs⟩, ?_⟩
    refine hk H2 (ex_tr e e2) _ fun w H3 e3 hw => ?_
    obtain rfl := dp_int hw
    exact ⟨a, ns, k, rfl, rfl, (zt_up e3 hs).sq, q _ H3 (ex_tr e2 e3) (.int _)⟩
theorem ev_countL {k : Int} {ns : List Int} (h : EvD K ta σ H (.list (ns.map .int))) (hk : EvD K tb σ H (.int k)) : EvD K (tBM K "list" (rCntI K) ta (tCons tb tNil)) σ H (.int (ns.count k : Nat)) := fun H1 e Q q =>
  h H1 e _ fun v H2 e2 hv => by
    obtain ⟨a, xs, rfl, hs, ha⟩ := dp_lst hv
    rw [dp_ints ha] at hs
    refine ⟨.inl ⟨rfl, _, hs⟩, ?_⟩
    refine hk H2 (ex_tr e e2) _ fun w H3 e3 hw => ?_
    obtain rfl := dp_int hw
    exact ⟨a, ns, k, rfl, rfl, Evl.ex_l e3 hs, q _ H3 (ex_tr e2 e3) (.int _)⟩
theorem ev_isN0 (h : EvD K ta σ H d) (hd : d ≠ .none) : EvD K (tOp (fun x y H Q => y = .non ∧ Q (.bl (decide (x = .non))) H) ta (tC .non)) σ H (.bool false) := fun H1 e Q q =>
  h H1 e _ fun v H2 e2 hv => ⟨rfl, by
    have : v ≠ .non := by
      rintro rfl
      cases hv
      exact hd rfl
    rw [decide_eq_false this]
    exact q _ H2 e2 (.bl _)⟩
theorem ev_isN1 (h : EvD K ta σ H .none) : EvD K (tOp (fun x y H Q => y = .non ∧ Q (.bl (decide (x = .non))) H) ta (tC .non)) σ H (.bool true) := fun H1 e Q q =>
  h H1 e _ fun v H2 e2 hv => ⟨rfl, by cases hv; exact q _ H2 e2 (.bl _)⟩
theorem ev_notN0 (h : EvD K ta σ H d) (hd : d ≠ .none) : EvD K (tOp (fun x y H Q => y = .non ∧ Q (.bl (!decide (x = .non))) H) ta (tC .non)) σ H (.bool true) := fun H1 e Q q =>
  h H1 e _ fun v H2 e2 hv => ⟨rfl, by
    have : v ≠ .non := by
      rintro rfl
      cases hv
      exact hd rfl
    rw [decide_eq_false this]
    exact q _ H2 e2 (.bl _)⟩
theorem ev_notN1 (h : EvD K ta σ H .none) : EvD K (tOp (fun x y H Q => y = .non ∧ Q (.bl (!decide (x = .non))) H) ta (tC .non)) σ H (.bool false) := fun H1 e Q q =>
  h H1 e _ fun v H2 e2 hv => ⟨rfl, by cases hv; exact q _ H2 e2 (.bl _)⟩
theorem et_truL (h : EvD K ta σ H (.list ds)) : EvB (fun σ H Q => ta σ H fun x H' => ∃ k, TruV K x H' k ∧ Q k H') σ H (!ds.isEmpty) := fun H1 e Q q =>
  h H1 e _ fun v H2 e2 hv => by
    obtain ⟨a, xs, rfl, hs, ha⟩ := dp_lst hv
    refine ⟨!xs.isEmpty, .inl ⟨xs, hs, rfl⟩, ?_⟩
    have : xs.isEmpty = ds.isEmpty := by
      have := ha.len
      cases xs <;> cases ds <;> simp_all
    rw [this]
    exact q H2 e2
end
structure Bl (mg : Str → Option Value) : Prop where
  len : mg "len" = none
  zip : mg "zip" = none
  tuple : mg "tuple" = none
  list : mg "list" = none
  sum : mg "sum" = none
  abs : mg "abs" = none
  int_ : mg "int" = none
  bool : mg "bool" = none
  str : mg "str" = none
  range : mg "range" = none
  enumerate : mg "enumerate" = none
  isinstance : mg "isinstance" = none
  all : mg "all" = none
  max : mg "max" = none
  min : mg "min" = none
  reversed : mg "reversed" = none
def ptD (p : Pt) : PyData := .tuple (p.map .int)
def plD (p : Pt) : PyData := .list (p.map .int)
def rowD (r : Row) : PyData := .tuple [ptD r.1, ptD r.2]
theorem tupOAll_ints : ∀ (p : List Int), tupOAll (p.map .int) = true
  | [] => rfl
  | x :: p => by
    rw [List.map_cons]
    simp [tupOAll, tupO, tupOAll_ints p]
theorem tupO_pt (p : Pt) : tupO (ptD p) = true := by
  unfold ptD
  rw [tupO]
  exact tupOAll_ints p
theorem tupO_row (r : Row) : tupO (rowD r) = true := by
  unfold rowD
  simp [tupO, tupOAll, tupO_pt]
theorem tupOAll_map {α : Type} {f : α → PyData} (h : ∀ a, tupO (f a) = true) : ∀ (l : List α), tupOAll (l.map f) = true
  | [] => rfl
  | x :: p => by
    rw [List.map_cons]
    simp [tupOAll, h x, tupOAll_map h p]
theorem ptD_get {p : Pt} {i : Nat} {n : Int} (h : p[i]? = some n) : (p.map PyData.int)[i]? = some (.int n) := by
  rw [List.getElem?_map, h]; rfl
theorem map_get {α : Type} {f : α → PyData} {p : List α} {i : Nat} {n : α} (h : p[i]? = some n) : (p.map f)[i]? = some (f n) := by
  rw [List.getElem?_map, h]; rfl
theorem map_got {α : Type} {f : α → PyData} {p : List α} {i : Nat} {d : PyData} (h : (p.map f)[i]? = some d) : ∃ n, p[i]? = some n ∧ d = f n := by
  rw [List.getElem?_map] at h
  cases e : p[i]? with
  | none => rw [e] at h; cases h
  | some n => rw [e] at h; exact ⟨n, rfl, (Option.some.inj h).symm⟩
theorem range_map_eq {α : Type} {f : α → PyData} {l : List α} {n : Nat} {v : Nat → PyData} (hn : n = l.length) (h : ∀ (i : Nat) (hi : i < l.length), v i = f l[i]) : (List.range n).map v = l.map f := by
  subst hn
  apply List.ext_getElem
  · simp
  · intro i h1 h2
    simp at h1
    simp [h i h1]
structure Ctx (P : Program) (K : PySem.W.Frag) (mg : Str → Option Value) (base : Heap) : Prop where
  bl : Bl mg
  seer : base.NoSeer
  tree : P.given.tree = none
end SF
namespace SF
open PySem PySem.Spec PyProof.Rows L2
def spD (K : PySem.W.Frag) (R : List PyData → PyData → Prop) : Sp := fun vs H Q _ => ∃ ds d, DdAll K H vs ds ∧ R ds d ∧ ∀ v H2, Ex H H2 → Dd K H2 v d → Q v H2
def spF (K : PySem.W.Frag) (R : List PyData → List PyData → Prop) : Sp := fun vs H Q _ => ∃ ds es, DdAll K H vs ds ∧ R ds es ∧ ∀ p xs H2, H p = none → Ex H H2 → H2 p = some (.lst xs) → DdAll K H2 xs es → Q (.ref p) H2
theorem spD_go {K : PySem.W.Frag} {R : List PyData → PyData → Prop} {ds : List PyData} {d : PyData} (h : R ds d) : SpD K (spD K R) ds d := fun vs H hv Q E q => ⟨ds, d, hv, h, q⟩
theorem spF_go {K : PySem.W.Frag} {R : List PyData → List PyData → Prop} {ds es : List PyData} (h : R ds es) : SpF K (spF K R) ds es := fun vs H hv Q E q => ⟨ds, es, hv, h, q⟩
theorem dd1 {K : PySem.W.Frag} {H : Hp} {vs : List V} {a : PyData} (h : DdAll K H vs [a]) : ∃ x, vs = [x] ∧ Dd K H x a := by
  cases h with
  | cons h1 h2 => cases h2; exact ⟨_, rfl, h1⟩
theorem dd2 {K : PySem.W.Frag} {H : Hp} {vs : List V} {a b : PyData} (h : DdAll K H vs [a, b]) : ∃ x y, vs = [x, y] ∧ Dd K H x a ∧ Dd K H y b := by
  cases h with
  | cons h1 h2 => obtain ⟨y, rfl, h3⟩ := dd1 h2; exact ⟨_, y, rfl, h1, h3⟩
theorem dd3 {K : PySem.W.Frag} {H : Hp} {vs : List V} {a b c : PyData} (h : DdAll K H vs [a, b, c]) : ∃ x y z, vs = [x, y, z] ∧ Dd K H x a ∧ Dd K H y b ∧ Dd K H z c := by
  cases h with
  | cons h1 h2 => obtain ⟨y, z, rfl, h3, h4⟩ := dd2 h2; exact ⟨_, y, z, rfl, h1, h3, h4⟩
theorem dd4 {K : PySem.W.Frag} {H : Hp} {vs : List V} {a b c d : PyData} (h : DdAll K H vs [a, b, c, d]) : ∃ x y z u, vs = [x, y, z, u] ∧ Dd K H x a ∧ Dd K H y b ∧ Dd K H z c ∧ Dd K H u d := by
  cases h with
  | cons h1 h2 => obtain ⟨y, z, u, rfl, h3, h4, h5⟩ := dd3 h2; exact ⟨_, y, z, u, rfl, h1, h3, h4, h5⟩
theorem pt_at {K : PySem.W.Frag} {H : Hp} {p : Pt} {i : Nat} {d : PyData} {x : V} (h : (p.map PyData.int)[i]? = some d) (hx : Dd K H x d) : ∃ n, p[i]? = some n ∧ x = .int n := by
  obtain ⟨n, e, rfl⟩ := map_got h
  exact ⟨n, e, dp_int hx⟩
end SF
namespace SF
open PySem PySem.Spec PyProof.Rows L2
section
variable {X : Cx} (K : PySem.W.Frag)
theorem addK (h : X.K = K := by rfl) : OpR X (binaryOp .Add) (rAddA K) := by subst h; exact opAdd
theorem ixK (h : X.K = K := by rfl) : IxR X (rIx K) := by subst h; exact ix_seq
theorem slK (h : X.K = K := by rfl) : SlR X (rSlAny K) := by subst h; exact slAny
theorem eqK (hu : X.A.units + 64 < cLine) (h : X.K = K := by rfl) : OpR X (compareOp .Eq) (rEqD K) := by subst h; exact op_eqD hu
theorem neK (hu : X.A.units + 64 < cLine) (h : X.K = K := by rfl) : OpR X (compareOp .NotEq) (rNeD K) := by subst h; exact op_neD hu
def rLen (K : PySem.W.Frag) : List V → Hp → VK → Prop := fun xs H Q => ∃ p ys, xs = [.ref p] ∧ (SqL K H p ys ∨ SqT K H p ys) ∧ Q (.int ys.length) H
theorem lenK (h : X.K = K := by rfl) : CallR X (.builtin "len") (rLen K) := by subst h; exact call_len_seq
theorem sumK (hc : X.calm = true) (h : X.K = K := by rfl) : CallR X (.builtin "sum") (rSum K) := by subst h; exact cr_sum hc
theorem allK (hc : X.calm = true) (h : X.K = K := by rfl) : CallR X (.builtin "all") (rAll K) := by subst h; exact cr_all hc
theorem isiK (h : X.K = K := by rfl) : CallR X (.builtin "isinstance") (rIsi K) := by subst h; exact call_isi
theorem tupleK (h : X.K = K := by rfl) : CallR X (.type "tuple") (rTupleOf K) := by subst h; exact call_tupleOf
theorem listK (h : X.K = K := by rfl) : CallR X (.type "list") (rListOf K) := by subst h; exact call_listOf
theorem fldK {e : Expr} {f : Str} {pos : Pos} {ta : TE} (he : PE X e ta) (hb : attributeBase e f X.env (eval e X.env) = eval e X.env := by rfl) (h : X.K = K := by rfl) : PE X (.Attribute e f pos) (tFld K ta f) := by subst h; exact pe_fld he hb
theorem tupG {es : List Expr} {k : Nat} {t : TGs} {pos : Pos} (n : Nat) (hc : X.calm = true) (hp : PGs X es t) (h : X.K = K := by rfl)
    (hn : (assignEach es X.env).length = n := by rfl) (hst : (assignEach es X.env).findIdx? (·.1) = none := by rfl) : PG X (.Tuple es k pos) (gTup K n t) := by subst h; exact pg_tup hc hp hn hst
theorem piLT {tg l : Expr} {tl : TE} (hl : PE X l tl) (h : X.K = K := by rfl) : PI X tg l (iLT K tl) := by subst h; exact pi_LT hl
theorem piZip {e e2 : Expr} {ta : TA} {p pos tpos : Pos} {elts : List Expr} {kk : Nat} (hg : Gl X "zip") (hm : X.mg "zip" = none) (ha : PA X [e, e2] ta) (h : X.K = K := by rfl)
    (hs : starEach [e, e2] X.env = (false, eval e X.env) :: starEach [e2] X.env := by rfl) (hpl : (backTo pos (starEach [e2] X.env)).any (·.1) = false := by rfl) :
    PI X (.Tuple elts kk tpos) (.Call (.Name "zip" p) [e, e2] [] pos) (iZipM K ta) := by subst h; exact pi_zipM hg hm ha hs hpl
theorem piEnum {e : Expr} {ta : TA} {p pos tpos : Pos} {elts : List Expr} {kk : Nat} (hg : Gl X "enumerate") (hm : X.mg "enumerate" = none) (ha : PA X [e] ta) (h : X.K = K := by rfl) (hs : starEach [e] X.env = [(false, eval e X.env)] := by rfl) :
    PI X (.Tuple elts kk tpos) (.Call (.Name "enumerate" p) [e] [] pos) (iEnumM K ta) := by subst h; exact pi_enumM hg hm ha hs
end
section
variable {K : PySem.W.Frag} {ds : List PyData}
theorem rc_lenL' : RC K (rLen K) [.list ds] (.int ds.length) := rc_lenL
theorem rc_lenT' : RC K (rLen K) [.tuple ds] (.int ds.length) := rc_lenT
end
end SF
namespace SF
open PySem PySem.Spec PyProof.Rows L2
section
variable {K : PySem.W.Frag} {σ : L2.St} {H : Hp} {tr ti tc te : TE}
theorem ev_rowAt {R : List Row} {k : Int} {n : Nat} (h : EvD K tr σ H (.list (R.map rowD))) (hi : EvD K ti σ H (.int k)) (hk : k = (n : Int)) (hn : n < R.length) : EvD K (tOp (rIx K) tr ti) σ H (rowD (row R n)) :=
  ev_op h hi (rd_ixL hk (map_get (row_get hn)))
theorem ev_fst {r : Row} (h : EvD K te σ H (rowD r)) : EvD K (tOp (rIx K) te (tC (.int 0))) σ H (ptD r.1) := ev_op h ev_cI (rd_ixT (n := 0) rfl rfl)
theorem ev_snd {r : Row} (h : EvD K te σ H (rowD r)) : EvD K (tOp (rIx K) te (tC (.int 1))) σ H (ptD r.2) := ev_op h ev_cI (rd_ixT (n := 1) rfl rfl)
theorem ev_ptAt {p : Pt} {k : Int} {n : Nat} (h : EvD K te σ H (ptD p)) (hi : EvD K ti σ H (.int k)) (hk : k = (n : Int)) (hn : n < p.length) : EvD K (tOp (rIx K) te ti) σ H (.int (vf p n)) :=
  ev_op h hi (rd_ixT hk (ptD_get (get_vf hn)))
theorem ev_plAt {p : Pt} {k : Int} {n : Nat} (h : EvD K te σ H (plD p)) (hi : EvD K ti σ H (.int k)) (hk : k = (n : Int)) (hn : n < p.length) : EvD K (tOp (rIx K) te ti) σ H (.int (vf p n)) :=
  ev_op h hi (rd_ixL hk (ptD_get (get_vf hn)))
theorem ev_ent {R : List Row} {k l : Int} {n c : Nat} (h : EvD K tr σ H (.list (R.map rowD))) (hi : EvD K ti σ H (.int k)) (hk : k = (n : Int)) (hn : n < R.length) (hc : EvD K tc σ H (.int l)) (hl : l = (c : Int)) (hw : c < (row R n).1.length) :
    EvD K (tOp (rIx K) (tOp (rIx K) (tOp (rIx K) tr ti) (tC (.int 0))) tc) σ H (.int (ent R n c)) :=
  ev_ptAt (ev_fst (ev_rowAt h hi hk hn)) hc hl hw
def optD : Option Nat → PyData
  | none => .none
  | some a => .int (a : Int)
def optV : Option Nat → V
  | none => .non
  | some a => .int (a : Int)
theorem dd_opt {t : Option Nat} {v : V} (h : Dd K H v (optD t)) : v = optV t := by
  cases t with
  | none => exact dp_non h
  | some a => exact dp_int h
theorem dd_optV (t : Option Nat) : Dd K H (optV t) (optD t) := by
  cases t with
  | none => exact .non
  | some a => exact .int _
theorem list_dd {p : List Row} : tupOAll (p.map rowD) = true := tupOAll_map tupO_row p
end
end SF
namespace SF
open PySem PySem.Spec PyProof.Rows L2
theorem nWS : ¬ (("width" : Str) = "steps") := by decide +kernel
def fFlds (W : Int) (l : Addr) : List (Str × V) := putF "steps" (.ref l) (putF "width" (.int W) [])
theorem fFlds_w (W : Int) (l : Addr) : (fFlds W l).lookup ("width" : Str) = some (.int W) := by
  unfold fFlds
  rw [lookup_putF, if_neg nWS, lookup_putF, if_pos rfl]
theorem fFlds_s (W : Int) (l : Addr) : (fFlds W l).lookup ("steps" : Str) = some (.ref l) := by
  unfold fFlds
  rw [lookup_putF, if_pos rfl]
def IEx (H H' : Hp) : Prop := (∀ a xs, H a = some (.lst xs) → H' a = some (.lst xs)) ∧ ∀ a o u, H a = some (.frz o u) → H' a = some (.frz o u)
theorem iex_ins {H : Hp} {p C dx : Addr} {fs : List (Str × V)} {o : HO} (h : H p = some (.ins C dx fs)) : IEx H (upd H p o) :=
  ⟨fun a xs e => by rw [upd_ne (by rintro rfl; rw [h] at e; cases e)]; exact e, fun a ob u e => by rw [upd_ne (by rintro rfl; rw [h] at e; cases e)]; exact e⟩
theorem iex_l {K : PySem.W.Frag} {H H' : Hp} {a : Addr} {xs : List V} (e : IEx H H') (h : SqL K H a xs) : SqL K H' a xs := by
  rcases h with (h | ⟨o, h⟩) | h
  · exact .inl (.inl (e.1 a xs h))
  · exact .inl (.inr ⟨o, e.2 a o _ h⟩)
  · exact .inr h
mutual
theorem dd_iex {K : PySem.W.Frag} {H H' : Hp} (e : IEx H H') : ∀ (d : PyData) (v : V), Dd K H v d → Dd K H' v d
  | .none, _, h => by cases h; exact .non
  | .bool b, _, h => by cases h; exact .bl b
  | .int i, _, h => by cases h; exact .int i
  | .str x, _, h => by cases h; exact .str x
  | .list ds, _, h => by
    cases h with
    | lst hs ha => exact .lst (iex_l e hs) (ddAll_iex e ds _ ha)
  | .tuple ds, _, h => by
    cases h with
    | tup hs ha =>
      obtain ⟨o, h1, h2⟩ := hs
      exact .tup ⟨o, e.2 _ _ _ h1, h2⟩ (ddAll_iex e ds _ ha)
  | .dict _, _, h => by cases h
theorem ddAll_iex {K : PySem.W.Frag} {H H' : Hp} (e : IEx H H') : ∀ (ds : List PyData) (vs : List V), DdAll K H vs ds → DdAll K H' vs ds
  | [], _, h => by cases h; exact .nil
  | d :: ds, _, h => by
    cases h with
    | cons h1 h2 => exact .cons (dd_iex e d _ h1) (ddAll_iex e ds _ h2)
end
def FieldAt (C : Addr) (K : PySem.W.Frag) (H : Hp) (a : Addr) (W : Nat) (S : List Pt) : Prop := ∃ dx l xs, H a = some (.ins C dx (fFlds (W : Int) l)) ∧ H l = some (.lst xs) ∧ DdAll K H xs (S.map ptD)
theorem FieldAt.up {C : Addr} {K : PySem.W.Frag} {H H' : Hp} {a : Addr} {W : Nat} {S : List Pt} (h : FieldAt C K H a W S) (e : Ex H H') : FieldAt C K H' a W S := by
  obtain ⟨dx, l, xs, h1, h2, h3⟩ := h
  exact ⟨dx, l, xs, e a _ h1, e l _ h2, h3.up e⟩
def FieldL (C : Addr) (K : PySem.W.Frag) (H : Hp) (a l : Addr) (W : Nat) (S : List Pt) : Prop := ∃ dx xs, H a = some (.ins C dx (fFlds (W : Int) l)) ∧ H l = some (.lst xs) ∧ DdAll K H xs (S.map ptD)
theorem FieldL.at {C : Addr} {K : PySem.W.Frag} {H : Hp} {a l : Addr} {W : Nat} {S : List Pt} (h : FieldL C K H a l W S) : FieldAt C K H a W S := let ⟨dx, xs, h1, h2, h3⟩ := h; ⟨dx, l, xs, h1, h2, h3⟩
theorem FieldL.up {C : Addr} {K : PySem.W.Frag} {H H' : Hp} {a l : Addr} {W : Nat} {S : List Pt} (h : FieldL C K H a l W S) (e : Ex H H') : FieldL C K H' a l W S := by
  obtain ⟨dx, xs, h1, h2, h3⟩ := h
  exact ⟨dx, xs, e a _ h1, e l _ h2, h3.up e⟩
structure FCls (K : PySem.W.Frag) (C : Addr) : Prop where
  cl : Cls K C
  nW : NoAttr K C "width"
  nS : NoAttr K C "steps"
structure CalM (P : Program) (w : World) (K : PySem.W.Frag) (mg : Str → Option Value) (base : Heap) (k : Nat) (x : Str) (C : Addr) (ps : List Str) (sp : Sp) : Prop where
  ex : ∃ (f : Addr) (fd : FuncData), Mk K C f ∧ FnOk P w K mg base CX0 k f fd ps sp ∧ mg x = some (.ref C) ∧ Binds K fd ps []
theorem pe_mkF {X : Cx} {k j : Nat} {x : Str} {C : Addr} {ps : List Str} {sp : Sp} {e : Expr} {es : List Expr} {t : TA} {p pos : Pos} (M : CalM X.prog X.w X.K X.mg X.base k x C ps sp) (hr : Room j X.A) (hk : k + 1 ≤ j) (hg : Gl X x) (ha : PA X (e :: es) t)
    (hdb : (x == ("__debug__" : Str)) = false := by decide) (he : starEach (e :: es) X.env = (false, eval e X.env) :: starEach es X.env := by rfl) (hpl : (backTo pos (starEach es X.env)).any (·.1) = false := by rfl) :
    PE X (.Call (.Name x p) (e :: es) [] pos) (tMake C sp [] E0 t) := by
  obtain ⟨f, fd, m, F, hm, hb⟩ := M.ex
  exact pe_make m F (hr.mono hk) hg hm hb .nil pass0 ha hdb he hpl
def Handed (ds : List PyData) (S : List Pt) : Prop := ds.length = S.length ∧ ∀ i d, ds[i]? = some d → d = ptD (S.getD i []) ∨ d = plD (S.getD i [])
theorem handed_pts (S : List Pt) : Handed (S.map ptD) S := ⟨by simp, fun i d h => by
  obtain ⟨p, e, rfl⟩ := map_got h
  refine .inl ?_
  rw [List.getD_eq_getElem?_getD, e]; rfl⟩
theorem handed_pls (S : List Pt) : Handed (S.map plD) S := ⟨by simp, fun i d h => by
  obtain ⟨p, e, rfl⟩ := map_got h
  refine .inr ?_
  rw [List.getD_eq_getElem?_getD, e]; rfl⟩
structure FOk (W : Nat) (S : List Pt) : Prop where
  w1 : 1 ≤ W
  w4 : W ≤ 4
  n6 : S.length ≤ 6
  len : ∀ k, k < S.length → (S.getD k []).length = W
def spInit (C : Addr) (K : PySem.W.Frag) : Sp := fun vs H Q _ => ∃ (p dx : Addr) (x : V) (W : Nat) (S : List Pt) (ds : List PyData), vs = [.ref p, .int (W : Int), x] ∧ H p = some (.ins C dx []) ∧ Dd K H x (.list ds) ∧ Handed ds S ∧ FOk W S ∧
  ∀ H' l, H l = none → FieldL C K H' p l W S → (∀ b o, H b = some o → b ≠ p → H' b = some o) → Q .non H'
def EvM (C : Addr) (K : PySem.W.Frag) (te : TE) (σ : L2.St) (H : Hp) (W : Nat) (S : List Pt) : Prop := ∀ H1, Ex H H1 → ∀ Q : VK, (∀ a H2, H1 a = none → Ex H1 H2 → FieldAt C K H2 a W S → Q (.ref a) H2) → te σ H1 Q
section
variable {K : PySem.W.Frag} {σ : L2.St} {H H' : Hp} {ta te : TE} {C : Addr} {W : Nat} {S : List Pt} {ds : List PyData}
theorem ev_make {t : TA} {E : XK} (h : EvDs K t σ H [.int (W : Int), .list ds]) (hh : Handed ds S) (hf : FOk W S) : EvM C K (tMake C (spInit C K) [] E t) σ H W S := fun H1 e Q q =>
  h H1 e _ fun vs H2 e2 hv => by
    obtain ⟨x, y, rfl, hx, hy⟩ := dd2 hv
    obtain rfl := dp_int hx
    refine fun a dx ha hdx hne => ?_
    have e3 : Ex H2 (upd (upd H2 dx (.own a)) a (.ins C dx [])) := fun b o hb => by
      rw [upd_ne (ne_of_none hb ha), upd_ne (ne_of_none hb hdx)]
      exact hb
    refine ⟨a, dx, y, W, S, ds, by simp, upd_same, hy.up e3, hh, hf, fun H' l hl hF hk => ⟨rfl, ?_⟩⟩
    exact q a H' (ex_back e2 ha) (ex_tr e2 fun b o hb => hk b o (e3 b o hb) (ne_of_none hb ha)) hF.at
theorem ev_makeL {t : TA} {E : XK} (h : EvDs K t σ H [.int (W : Int), .list ds]) (hh : Handed ds S) (hf : FOk W S) (Q : VK) (q : ∀ a l H2, H a = none → H l = none → Ex H H2 → FieldL C K H2 a l W S → Q (.ref a) H2) : (tMake C (spInit C K) [] E t) σ H Q :=
  h H ex_refl _ fun vs H2 e2 hv => by
    obtain ⟨x, y, rfl, hx, hy⟩ := dd2 hv
    obtain rfl := dp_int hx
    refine fun a dx ha hdx hne => ?_
    have e3 : Ex H2 (upd (upd H2 dx (.own a)) a (.ins C dx [])) := fun b o hb => by
      rw [upd_ne (ne_of_none hb ha), upd_ne (ne_of_none hb hdx)]
      exact hb
    refine ⟨a, dx, y, W, S, ds, by simp, upd_same, hy.up e3, hh, hf, fun H' l hl hF hk => ⟨rfl, ?_⟩⟩
    exact q a l H' (ex_back e2 ha) (ex_back (ex_tr e2 e3) hl) (ex_tr e2 fun b o hb => hk b o (e3 b o hb) (ne_of_none hb ha)) hF
theorem ev_width {i : Nat} {a : Addr} (F : FCls K C) (hf : FieldAt C K H a W S) (h : σ[i]? = some (some (.ref a))) : EvD K (tFld K (tVar i) "width") σ H (.int (W : Int)) := fun H1 e Q q => by
  obtain ⟨dx, l, xs, h1, h2, h3⟩ := hf.up e
  exact ⟨_, h, a, C, dx, _, _, rfl, h1, F.cl, F.nW, fFlds_w _ _, q _ H1 ex_refl (.int _)⟩
theorem el_steps {i : Nat} {a : Addr} (F : FCls K C) (hf : FieldAt C K H a W S) (h : σ[i]? = some (some (.ref a))) : EvL K (tFld K (tVar i) "steps") σ H (S.map ptD) := fun H1 e Q q => by
  obtain ⟨dx, l, xs, h1, h2, h3⟩ := hf.up e
  exact ⟨_, h, a, C, dx, _, _, rfl, h1, F.cl, F.nS, fFlds_s _ _, q l xs H1 ex_refl h2 h3⟩
theorem s_asgM {D : Ends} {i : Nat} (h : EvM C K te σ H W S) (k : ∀ a H1, H a = none → Ex H H1 → FieldAt C K H1 a W S → D.nx (σ.set i (some (.ref a))) H1) : tAsg te (gName i) D σ H := h H ex_refl _ k
end
theorem s_fldF {K : PySem.W.Frag} {σ : L2.St} {H : Hp} {ta tv : TE} {D : Ends} {f : Str} {ds : List PyData} (h : EvF K tv σ H ds)
    (k : ∀ l ls H1, H l = none → Ex H H1 → H1 l = some (.lst ls) → DdAll K H1 ls ds → ta σ H1 fun x H2 => ∃ a C dx fs, x = .ref a ∧ H2 a = some (.ins C dx fs) ∧ Cls K C ∧ NoAttr K C f ∧ fs.length < 1000 ∧ D.nx σ (upd H2 a (.ins C dx (putF f (.ref l) fs)))) : sFld K ta tv f D σ H :=
  h H ex_refl _ fun l ls H1 h1 e h2 h3 => k l ls H1 h1 e h2 h3
def spOne (C : Addr) (K : PySem.W.Frag) (R : Nat → List Pt → Prop) (post : Nat → List Pt → Hp → VK → Prop) : Sp := fun vs H Q _ => ∃ a W S, vs = [.ref a] ∧ FieldAt C K H a W S ∧ R W S ∧ post W S H Q
end SF
namespace SF
open PySem PySem.Spec PyProof.Rows L2
def Ex1 (s : Addr) (H H' : Hp) : Prop := ∀ b o, H b = some o → b ≠ s → H' b = some o
theorem ex1_of {s : Addr} {H H' : Hp} (e : Ex H H') : Ex1 s H H' := fun b o h _ => e b o h
theorem ex1_tr {s : Addr} {H H1 H2 : Hp} (a : Ex1 s H H1) (b : Ex1 s H1 H2) : Ex1 s H H2 := fun c o h n => b c o (a c o h n) n
theorem ex1_upd {s : Addr} {H : Hp} {o : HO} : Ex1 s H (upd H s o) := fun b u h n => by rw [upd_ne n]; exact h
theorem ex1_mut {s l : Addr} {H0 H H' : Hp} (a : Ex1 s H0 H) (n : H0 l = none) (b : Ex1 l H H') : Ex1 s H0 H' := fun c o h q => b c o (a c o h q) (by rintro rfl; rw [n] at h; cases h)
theorem tex1 {s : Addr} {H H' : Hp} {xs : List V} (e : Ex1 s H H') (h : H s = some (.lst xs)) : TEx H H' := fun a ys q => by
  obtain ⟨o, q, d⟩ := q
  exact ⟨o, e a _ q (by rintro rfl; rw [h] at q; cases q), d⟩
def Scr (K : PySem.W.Frag) (H : Hp) (x : V) (ns : List Int) : Prop := ∃ a, x = .ref a ∧ ((∃ o, H a = some (.frz o (.lst (ns.map V.int)))) ∨ ∃ (o : Obj) (its : Array Value) (n : Nat), K.lookup a = some o ∧ o.cls = .type "list" ∧ o.dict = none ∧ o.data = .seq its n ∧ its.size ≤ sizeLine ∧ Vals (ns.map V.int) its.toList)
theorem Scr.dd {K : PySem.W.Frag} {H : Hp} {x : V} {ns : List Int} (h : Scr K H x ns) : Dd K H x (plD ns) := by
  obtain ⟨a, rfl, h⟩ := h
  refine .lst (xs := ns.map V.int) ?_ (DdAll.ints ns)
  rcases h with ⟨o, h⟩ | h
  · exact .inl (.inr ⟨o, h⟩)
  · exact .inr h
theorem Scr.up {K : PySem.W.Frag} {H H' : Hp} {x : V} {ns : List Int} (h : Scr K H x ns) (e : Ex H H') : Scr K H' x ns := by
  obtain ⟨a, rfl, h⟩ := h
  refine ⟨a, rfl, ?_⟩
  rcases h with ⟨o, h⟩ | h
  · exact .inl ⟨o, e a _ h⟩
  · exact .inr h
theorem Scr.up1 {K : PySem.W.Frag} {H H' : Hp} {x : V} {ns : List Int} {s : Addr} {xs : List V} (h : Scr K H x ns) (e : Ex1 s H H') (hs : H s = some (.lst xs)) : Scr K H' x ns := by
  obtain ⟨a, rfl, h⟩ := h
  refine ⟨a, rfl, ?_⟩
  rcases h with ⟨o, h⟩ | h
  · exact .inl ⟨o, e a _ h (by rintro rfl; rw [hs] at h; cases h)⟩
  · exact .inr h
theorem scr_of {K : PySem.W.Frag} {H : Hp} {a : Addr} {ns : List Int} (ho : Only H) (h : SqL K H a (ns.map V.int)) : Scr K H (.ref a) ns := by
  refine ⟨a, rfl, ?_⟩
  rcases h with (h | h) | h
  · rcases ho a with z | ⟨o, xs, z⟩
    · rw [h] at z; cases z
    · rw [h] at z; cases z
  · exact .inl h
  · exact .inr h
def EvR (te : TE) (σ : L2.St) (H : Hp) (P : V → Hp → Prop) : Prop := ∀ Q : VK, (∀ v H', P v H' → Q v H') → te σ H Q
section
variable {K : PySem.W.Frag} {σ : L2.St} {H : Hp} {te ta tb : TE} {D : Ends} {i : Nat} {d : PyData} {ds : List PyData}
theorem s_asgR {P : V → Hp → Prop} (h : EvR te σ H P) (k : ∀ v H1, P v H1 → D.nx (σ.set i (some v)) H1) : tAsg te (gName i) D σ H := h _ k
theorem er_op {r : R2} {P P2 : V → Hp → Prop} (h : EvR ta σ H P) (h2 : ∀ x H1, P x H1 → ∀ Q : VK, (∀ v H', P2 v H' → Q v H') → tb σ H1 fun y H2 => r x y H2 Q) : EvR (tOp r ta tb) σ H P2 := fun Q q => h _ fun x H1 p => h2 x H1 p Q q
theorem s_app1 {l : Addr} {io : Nat} {xs : List V} (hl : H l = some (.lst xs)) (hd : DdAll K H xs ds) (ht : tupOAll ds = true) (ho : σ[io]? = some (some (.ref l))) (h : EvD K te σ H d) (htd : tupO d = true) (hz : ds.length < 100000)
    (k : ∀ H1 ys, Ex1 l H H1 → H1 l = some (.lst ys) → DdAll K H1 ys (ds ++ [d]) → D.nx σ H1) : tDrop (tBM K "list" rAppend (tVar io) (tCons te tNil)) D σ H := by
  refine ⟨_, ho, Or.inl ⟨rfl, xs, SqL.of hl⟩, ?_⟩
  refine h H ex_refl _ fun v H1 e1 hv => ?_
  have h1 := e1 l _ hl
  refine ⟨l, xs, v, rfl, rfl, h1, Evl.sz_lt (by rw [hd.len]; exact hz), ?_⟩
  refine k _ _ (ex1_tr (ex1_of e1) ex1_upd) upd_same ?_
  exact ((hd.up e1).app (.cons hv .nil)).tx (tex_upd h1) (tupOAll_app ht (by simp [tupOAll, htd]))
theorem s_set1 {l : Addr} {io : Nat} {xs : List V} {ti : TE} {j : Int} {n : Nat} (hl : H l = some (.lst xs)) (hd : DdAll K H xs ds) (ht : tupOAll ds = true) (ho : σ[io]? = some (some (.ref l))) (h : EvD K te σ H d) (htd : tupO d = true) (hi : EvD K ti σ H (.int j)) (hj : j = (n : Int)) (hn : n < ds.length)
    (k : ∀ H1 ys, Ex1 l H H1 → H1 l = some (.lst ys) → DdAll K H1 ys (ds.set n d) → D.nx σ H1) : tAsg te (gSub (tVar io) ti rSetL) D σ H := by
  refine h H ex_refl _ fun v H1 e1 hv => ⟨_, ho, ?_⟩
  refine hi H1 e1 _ fun w H2 e2 hw => ?_
  obtain rfl := dp_int hw
  have h2 := (ex_tr e1 e2) l _ hl
  refine ⟨l, xs, j, n, rfl, rfl, h2, ?_, ?_⟩
  · subst hj; exact Evl.ixN_nat (by rw [hd.len]; exact hn)
  · refine k _ _ (ex1_tr (ex1_of (ex_tr e1 e2)) ex1_upd) upd_same ?_
    exact (DdAll.set (hv.up e2) n (hd.up (ex_tr e1 e2))).tx (tex_upd h2) (tupOAll_set htd n ht)
end
def spNext (K : PySem.W.Frag) : Sp := fun vs H Q _ => ∃ (x : V) (sp : Addr) (ns : List Int) (p : Nat), vs = [x, .ref sp] ∧ Scr K H x ns ∧ ns.length ≤ 1000 ∧ H sp = some (.lst [.int (p : Int)]) ∧
  ∀ H', Ex1 sp H H' → H' sp = some (.lst [.int ((p + 1 : Nat) : Int)]) → Q (.int (vf ns p)) H'
section
variable {K : PySem.W.Frag} {σ : L2.St} {H : Hp} {te ta tb : TE} {D : Ends} {tu : TS}
theorem s_forX {t : TA} {j : Nat} {P : Int → Hp → Prop} (h : ∀ Q : List V → Hp → Prop, (∀ n H', P n H' → Q [.int n] H') → t σ H Q)
    (k : ∀ n H1, P n H1 → (-100000 ≤ n ∧ n ≤ 100000) ∧ ∃ Pv : Nat → L2.St → Hp → Prop, Pv 0 σ H1 ∧ (∀ (i : Nat) σ' H', (i : Int) < n → Pv i σ' H' → tu { D with nx := Pv (i + 1), ct := Pv (i + 1), bk := D.nx } (σ'.set j (some (.int (i : Int)))) H') ∧ ∀ σ' H', Pv n.toNat σ' H' → D.nx σ' H') : tFor (iRng1 t) (gName j) tu D σ H :=
  h _ fun n H1 p => by
    obtain ⟨hn, Pv, h0, hs, hd⟩ := k n H1 p
    exact ⟨n, rfl, by omega, by omega, for_range (lo := 0) (n := n.toNat) Pv h0 (fun i σ' H' hi p => by
      have e0 : (0 : Int) + (i : Int) = (i : Int) := Int.zero_add _
      show tu { D with nx := Pv (i + 1), ct := Pv (i + 1), bk := D.nx } (σ'.set j (some (.int ((0 : Int) + (i : Int))))) H'
      rw [e0]
      exact hs i σ' H' (by omega) p) hd⟩
theorem er_lcR {t : TA} {j : Nat} {n : Int} (h : EvDs K t σ H [.int n]) (hn : n ≤ 50000) (hn0 : -100000 ≤ n) (hw : ∀ x, wipe ((wipe σ [j]).set j (some x)) [j] = wipe σ [j]) (Pv : Addr → Nat → Hp → Prop)
    (h0 : ∀ H1 Da, Ex H H1 → H1 Da = none → Pv Da 0 (upd H1 Da (.lst [])))
    (hs : ∀ Da (i : Nat) H', (i : Int) < n → Pv Da i H' → te ((wipe σ [j]).set j (some (.int (i : Int)))) H' fun y H4 => ∃ acc, H4 Da = some (.lst acc) ∧ acc.length < sizeLine ∧ Pv Da (i + 1) (upd H4 Da (.lst (acc ++ [y])))) :
    EvR (tLc (iRng1 t) (gName j) tYes te [j]) σ H (fun v H' => ∃ Da, v = .ref Da ∧ Pv Da n.toNat H') := fun Q q =>
  h H ex_refl _ fun vs H1 e hv => by
    cases hv with
    | cons h1 h2 =>
      cases h1; cases h2
      exact ⟨n, rfl, by omega, by omega, fun Da hD => lc_range (lo := 0) (n := n.toNat) (Pv Da) (h0 H1 Da e hD) (fun i H' hi p => by
        have e0 : (0 : Int) + (i : Int) = (i : Int) := Int.zero_add _
        refine ⟨?_, ?_⟩
        · show wipe ((wipe σ [j]).set j (some (.int ((0 : Int) + (i : Int))))) [j] = wipe σ [j]
          exact hw _
        · have z := hs Da i H' (by omega) p
          rw [← e0] at z
          exact z) (fun H' p => q _ H' ⟨Da, rfl, p⟩)⟩
theorem s_sq {t1 t2 : TS} {D : Ends} {σ : L2.St} {H : Hp} (h : t1 { D with nx := t2 D } σ H) : ({ D with nx := tSeq t1 t2 D } : Ends).nx σ H := h
theorem t_cons1 {t : TE} {σ : L2.St} {H : Hp} {Q : List V → Hp → Prop} (h : t σ H fun v H' => Q [v] H') : tCons t tNil σ H Q := h
theorem t_cb {r : List V → Hp → L2.VK → Prop} {t : TA} {σ : L2.St} {H : Hp} {Q : L2.VK} (h : t σ H fun vs H' => r vs H' Q) : tCB r t σ H Q := h
theorem er_next {E : XK} {ix isp : Nat} {x : V} {sp : Addr} {ns : List Int} {p : Nat} (hx : Scr K H x ns) (hn : ns.length ≤ 1000) (hs : H sp = some (.lst [.int (p : Int)])) (h1 : σ[ix]? = some (some x)) (h2 : σ[isp]? = some (some (.ref sp))) :
    EvR (tCall (spNext K) [] E (tCons (tVar ix) (tCons (tVar isp) tNil))) σ H (fun v H' => v = .int (vf ns p) ∧ Ex1 sp H H' ∧ H' sp = some (.lst [.int ((p + 1 : Nat) : Int)])) := fun Q q =>
  ⟨x, h1, .ref sp, h2, x, sp, ns, p, rfl, hx, hn, hs, fun H' e1 e2 => q _ H' ⟨rfl, e1, e2⟩⟩
end
def RCell (ds : List PyData) (d : PyData) : Prop := ∃ (ns : List Int) (k : Nat), ds = [plD ns, .int (k : Int)] ∧ d = .int (vf ns k) ∧ ns.length ≤ 1000
def NumOk (great : Bool) (n : Int) : Prop := n.natAbs ≤ 20 ∨ (great = true ∧ n.natAbs ≤ 1000000000000000)
def spNum (K : PySem.W.Frag) : Sp := fun vs H Q _ => ∃ (c : Int) (g : Bool), vs = [.int c, .bl g] ∧ ∀ n H', Ex H H' → NumOk g n → Q (.int n) H'
structure LSteps (W most : Nat) (great : Bool) (S : List Pt) : Prop where
  n : S.length ≤ most
  len : ∀ k, k < S.length → (S.getD k []).length = W
  bd : ∀ k, k < S.length → Bd (if great then 50 else 5 + 2 * k) (S.getD k [])
theorem LSteps.ok {W most : Nat} {great : Bool} {S : List Pt} (h : LSteps W most great S) {b : Nat} (hb : great = true → 50 ≤ b) (hb2 : great = false → 3 + 2 * most ≤ b) : StepsOk W b S := ⟨h.len, fun k hk x hx => by
  refine Nat.lt_of_lt_of_le (h.bd k hk x hx) (Nat.pow_le_pow_right (by omega) ?_)
  cases great with
  | true => exact hb rfl
  | false =>
    have := hb2 rfl
    have := h.n
    show 5 + 2 * k ≤ b
    omega⟩
def spSteps (K : PySem.W.Frag) : Sp := fun vs H Q _ => ∃ (x : V) (sp : Addr) (ns : List Int) (p W most : Nat) (great : Bool), vs = [x, .ref sp, .int (W : Int), .int (most : Int), .bl great] ∧ Scr K H x ns ∧ ns.length ≤ 1000 ∧ H sp = some (.lst [.int (p : Int)]) ∧ W ≤ 100 ∧ most ≤ 100 ∧
  ∀ (l : Addr) (xs : List V) (S : List Pt) (H' : Hp) (p' : Nat), H l = none → Ex1 sp H H' → H' sp = some (.lst [.int (p' : Int)]) → H' l = some (.lst xs) → DdAll K H' xs (S.map ptD) → LSteps W most great S → Q (.ref l) H'
end SF
namespace SF
open PySem PySem.Spec PyProof.Rows L2
theorem s_nx {t : TS} {D D' : Ends} {σ : L2.St} {H : Hp} (h : t D σ H) : ({ D' with nx := t D } : Ends).nx σ H := h
def stairP (W : Nat) (S : List Pt) : List Pt := (stairRows W S).map (·.1)
structure Good (W b : Nat) (S : List Pt) : Prop where
  ok : StepsOk W b S
  n : S.length ≤ 100
  w : W ≤ 100
  x : xs b W ≤ 40000000
  y : ys b W ≤ 90000000
structure Hnf (W : Nat) (L : List Pt) (E : Nat → Nat) : Prop where
  len : ∀ i, i < L.length → (L.getD i []).length = W
  mono : ∀ i i', i < i' → i' < L.length → E i < E i'
  lt : ∀ i, i < L.length → E i < W
  zero : ∀ i j, i < L.length → j < E i → pe L i j = 0
  pos : ∀ i, i < L.length → 0 < pe L i (E i)
  red : ∀ i i', i < i' → i' < L.length → 0 ≤ pe L i (E i') ∧ pe L i (E i') < pe L i' (E i')
theorem stairP_len {W b : Nat} {S : List Pt} (h : StepsOk W b S) : (stairP W S).length = (stairN S W).2 := by
  have ok := stOk_all h W
  obtain ⟨E, hE⟩ := ok.ech
  unfold stairP stairRows
  rw [List.length_map, List.length_take]
  have := hE.dl
  omega
theorem stairP_row {W b : Nat} {S : List Pt} (h : StepsOk W b S) {i : Nat} (hi : i < (stairP W S).length) : (stairP W S).getD i [] = (row (stairN S W).1 i).1 := by
  rw [stairP_len h] at hi
  have ok := stOk_all h W
  obtain ⟨E, hE⟩ := ok.ech
  have hd := hE.dl
  unfold stairP stairRows
  rw [List.getD_eq_getElem?_getD, List.getElem?_map, List.getElem?_take_of_lt hi]
  rw [row_get (by omega)]
  rfl
theorem stairP_pe {W b : Nat} {S : List Pt} (h : StepsOk W b S) {i : Nat} (hi : i < (stairP W S).length) (j : Nat) : pe (stairP W S) i j = ent (stairN S W).1 i j := by
  unfold pe ent
  rw [stairP_row h hi]
theorem stairP_hnf {W b : Nat} {S : List Pt} (h : StepsOk W b S) : ∃ E, Hnf W (stairP W S) E := by
  have ok := stOk_all h W
  obtain ⟨E, hE⟩ := ok.ech
  have hl := stairP_len h
  have hd := hE.dl
  refine ⟨E, ⟨fun i hi => ?_, fun i i' h1 h2 => hE.mono i i' h1 (by omega), fun i hi => hE.lt i (by omega), fun i j hi hj => ?_, fun i hi => ?_, fun i i' h1 h2 => ?_⟩⟩
  · rw [stairP_row h hi]
    exact ok.shp.pt i (by omega)
  · rw [stairP_pe h hi]
    exact hE.zero i j (by omega) hj
  · rw [stairP_pe h hi]
    exact hE.pos i (by omega)
  · rw [stairP_pe h h2, stairP_pe h (by omega)]
    exact hE.red i i' h1 (by omega)
theorem rest_zero {W b : Nat} {S : List Pt} (h : StepsOk W b S) {k : Nat} (h1 : (stairN S W).2 ≤ k) (h2 : k < (stairN S W).1.length) (j : Nat) : ent (stairN S W).1 k j = 0 := by
  have ok := stOk_all h W
  obtain ⟨E, hE⟩ := ok.ech
  by_cases hj : j < W
  · exact hE.below k j h1 h2 hj
  · unfold ent
    exact vf_beyond (by rw [ok.shp.pt k h2]; omega)
theorem stairP_lat {W b : Nat} {S : List Pt} (h : StepsOk W b S) : SameLat (stairP W S).length (pe (stairP W S)) S.length (pe S) := fun f => by
  have ok := stOk_all h W
  obtain ⟨E, hE⟩ := ok.ech
  have hl := stairP_len h
  have hd := hE.dl
  rw [← ok.sp f]
  constructor
  · refine Lat.sub fun k hk => ?_
    refine (Lat.mem (g := ent (stairN S W).1) (show k < (stairN S W).1.length by omega)).of fun j => ?_
    exact (stairP_pe h hk j).symm
  · refine Lat.sub fun k hk => ?_
    by_cases hk2 : k < (stairN S W).2
    · refine (Lat.mem (g := pe (stairP W S)) (show k < (stairP W S).length by omega)).of fun j => ?_
      exact stairP_pe h (by omega) j
    · exact Lat.zero.of fun j => (rest_zero h (by omega) hk j).symm
theorem stairP_bd {W b : Nat} {S : List Pt} (h : StepsOk W b S) {i : Nat} (hi : i < (stairP W S).length) : Bd (ys b W + 1) ((stairP W S).getD i []) := by
  have ok := stOk_all h W
  obtain ⟨E, hE⟩ := ok.ech
  have hl := stairP_len h
  have hd := hE.dl
  rw [stairP_row h hi]
  exact bd_of (ok.bdA i (Nat.zero_le _) (by omega)).1
theorem stairP_n {W b : Nat} {S : List Pt} (h : StepsOk W b S) : (stairP W S).length ≤ S.length := by
  have ok := stOk_all h W
  obtain ⟨E, hE⟩ := ok.ech
  have hl := stairP_len h
  have hd := hE.dl
  have := ok.len
  omega
theorem Hnf.nW {W : Nat} {L : List Pt} {E : Nat → Nat} (h : Hnf W L E) : L.length ≤ W := by
  have : ∀ i, i < L.length → i ≤ E i := fun i => by
    induction i with
    | zero => intro _; omega
    | succ i ih =>
      intro hi
      have a := ih (by omega)
      have b := h.mono i (i + 1) (by omega) hi
      omega
  by_cases z : L.length = 0
  · omega
  · have a := this (L.length - 1) (by omega)
    have b := h.lt (L.length - 1) (by omega)
    omega
def leftF (L : List Pt) (E : Nat → Nat) (p : Nat → Int) : Nat → (Nat → Int)
  | 0 => p
  | n + 1 => fun j => leftF L E p n j - (leftF L E p n (E n)).fdiv (pe L n (E n)) * pe L n j
theorem leftF_lat (L : List Pt) (E : Nat → Nat) (p : Nat → Int) : ∀ n, n ≤ L.length → Lat L.length (pe L) (fun j => p j - leftF L E p n j)
  | 0, _ => Lat.zero.of fun j => by show 0 = p j - p j; omega
  | n + 1, h => ((leftF_lat L E p n (by omega)).add n ((leftF L E p n (E n)).fdiv (pe L n (E n))) (by omega)).of fun j => by
    show _ = p j - (leftF L E p n j - _)
    omega
theorem leftF_red {W : Nat} {L : List Pt} {E : Nat → Nat} (h : Hnf W L E) (p : Nat → Int) : ∀ n, n ≤ L.length → ∀ i, i < n → 0 ≤ leftF L E p n (E i) ∧ leftF L E p n (E i) < pe L i (E i)
  | 0, _, i, hi => absurd hi (Nat.not_lt_zero _)
  | n + 1, hn, i, hi => by
    by_cases e : i = n
    · subst e
      have hp := h.pos i (by omega)
      have := fd_rem (leftF L E p i (E i)) (show pe L i (E i) ≠ 0 by omega)
      obtain ⟨t1, t2⟩ := this
      show 0 ≤ leftF L E p i (E i) - (leftF L E p i (E i)).fdiv (pe L i (E i)) * pe L i (E i) ∧ leftF L E p i (E i) - (leftF L E p i (E i)).fdiv (pe L i (E i)) * pe L i (E i) < pe L i (E i)
      generalize leftF L E p i (E i) - (leftF L E p i (E i)).fdiv (pe L i (E i)) * pe L i (E i) = r at *
      have : 0 ≤ r := by
        rcases Int.lt_or_le r 0 with c | c
        · have := Int.mul_neg_of_neg_of_pos c hp
          omega
        · exact c
      omega
    · have z : pe L n (E i) = 0 := h.zero n (E i) (by omega) (h.mono i n (by omega) (by omega))
      have ih := leftF_red h p n (by omega) i (by omega)
      show 0 ≤ leftF L E p n (E i) - _ * pe L n (E i) ∧ leftF L E p n (E i) - _ * pe L n (E i) < _
      rw [z]
      omega
theorem red_zero {W : Nat} {L : List Pt} {E : Nat → Nat} (h : Hnf W L E) {q : Nat → Int} (hq : Lat L.length (pe L) q) (hr : ∀ i, i < L.length → (q (E i)).natAbs < (pe L i (E i)).natAbs) : ∀ j, q j = 0 := by
  have key : ∃ c : Nat → Int, ∀ j, q j = sumN L.length fun i => c i * pe L i j := by
    clear hr
    induction hq with
    | zero => exact ⟨fun _ => 0, fun j => (sumN_zero fun i _ => Int.zero_mul _).symm⟩
    | @add f k c hk hf ih =>
      obtain ⟨d, hd⟩ := ih
      refine ⟨fun i => d i - (-c) * (if i < L.length ∧ i = k then (1 : Int) else 0), fun j => ?_⟩
      rw [sumN_lin, sumN_one (s := fun i => pe L i j) hk]
      show f j + c * pe L k j = _
      rw [hd j]
      have : -c * pe L k j = -(c * pe L k j) := Int.neg_mul _ _
      omega
  obtain ⟨c, hc⟩ := key
  have low : ∀ n, n ≤ L.length → (∀ i, i < n → c i = 0) := fun n => by
    induction n with
    | zero => intro _ i hi; omega
    | succ n ih =>
      intro hn i hi
      have ih := ih (by omega)
      by_cases e : i < n
      · exact ih i e
      · have e : i = n := by omega
        subst e
        have v : q (E i) = c i * pe L i (E i) := by
          rw [hc]
          have : ∀ m, m ≤ L.length → sumN m (fun k => c k * pe L k (E i)) = if i < m then c i * pe L i (E i) else 0 := fun m => by
            induction m with
            | zero => intro _; rw [if_neg (by omega)]; rfl
            | succ m ihm =>
              intro hm
              show sumN m _ + c m * pe L m (E i) = _
              rw [ihm (by omega)]
              by_cases a : i < m
              · rw [if_pos a, if_pos (by omega), h.zero m (E i) (by omega) (h.mono i m a (by omega))]
                omega
              · rw [if_neg a]
                by_cases b : i = m
                · subst b
                  rw [if_pos (by omega)]; omega
                · rw [if_neg (by omega), ih m (by omega)]
                  omega
          rw [this L.length (Nat.le_refl _), if_pos (by omega)]
        have r := hr i (by omega)
        rw [v, Int.natAbs_mul] at r
        by_cases z : c i = 0
        · exact z
        · exfalso
          have : 1 ≤ (c i).natAbs := by omega
          have := Nat.mul_le_mul_right (pe L i (E i)).natAbs this
          omega
  intro j
  rw [hc]
  exact sumN_zero fun i hi => by rw [low L.length (Nat.le_refl _) i hi]; omega
theorem left_zero {W : Nat} {L : List Pt} {E : Nat → Nat} (h : Hnf W L E) {p : Nat → Int} (hp : Lat L.length (pe L) p) : ∀ j, leftF L E p L.length j = 0 := by
  have hl : Lat L.length (pe L) (leftF L E p L.length) := (hp.minus (leftF_lat L E p L.length (Nat.le_refl _))).of fun j => by omega
  exact red_zero h hl fun i hi => by
    have := leftF_red h p L.length (Nat.le_refl _) i hi
    omega
theorem lat_of_left {L : List Pt} {E : Nat → Nat} {p : Nat → Int} (h : ∀ j, leftF L E p L.length j = 0) : Lat L.length (pe L) p :=
  (leftF_lat L E p L.length (Nat.le_refl _)).of fun j => by rw [h j]; omega
theorem givD_first {n e : Nat} {f : Nat → Bool} {v : Nat → PyData} (h0 : ∀ i, i < e → f i = false) (h1 : f e = true) (hn : e < n) : (givD n f v)[0]? = some (v e) := by
  have z : ∀ m, m ≤ e → givD m f v = [] := fun m => by
    induction m with
    | zero => intro _; rfl
    | succ m ih => intro h; rw [givD_no (h0 m (by omega)), ih (by omega)]
  have : ∀ m, (givD (e + 1 + m) f v)[0]? = some (v e) := fun m => by
    induction m with
    | zero => rw [Nat.add_zero, givD_yes h1, z e (Nat.le_refl _)]; rfl
    | succ m ih =>
      show (givD (e + 1 + m + 1) f v)[0]? = _
      cases hf : f (e + 1 + m) with
      | true =>
        rw [givD_yes hf, List.getElem?_append_left, ih]
        exact (List.getElem?_eq_some_iff.mp ih).1
      | false => rw [givD_no hf, ih]
  have := this (n - (e + 1))
  rwa [show e + 1 + (n - (e + 1)) = n by omega] at this
def leftP (L : List Pt) (E : Nat → Nat) (p : Pt) (n : Nat) : Pt := (List.range p.length).map fun j => leftF L E (vf p) n j
theorem leftP_len (L : List Pt) (E : Nat → Nat) (p : Pt) (n : Nat) : (leftP L E p n).length = p.length := by simp [leftP]
theorem leftP_vf {L : List Pt} {E : Nat → Nat} {p : Pt} {n j : Nat} (hj : j < p.length) : vf (leftP L E p n) j = leftF L E (vf p) n j := by
  unfold leftP vf
  simp [List.getD_eq_getElem?_getD, hj]
theorem leftP_zero (L : List Pt) (E : Nat → Nat) (p : Pt) : leftP L E p 0 = p := pt_ext (leftP_len _ _ _ _) fun j hj => by
  rw [leftP_len] at hj
  rw [leftP_vf hj]; rfl
theorem left_q {a d : Int} {x : Nat} (hd : d ≠ 0) (h : a.natAbs < 2 ^ x) : (a.fdiv d).natAbs < 2 ^ (x + 1) := by
  have := fd_abs a hd
  have : a.natAbs / d.natAbs ≤ a.natAbs := Nat.div_le_self _ _
  rw [Nat.pow_succ]
  omega
theorem left_bd {a q r : Int} {x y : Nat} (ha : a.natAbs < 2 ^ x) (hq : q.natAbs < 2 ^ (x + 1)) (hr : r.natAbs < 2 ^ y) : (a - q * r).natAbs < 2 ^ (x + y + 2) := by
  have h1 : (q * r).natAbs ≤ 2 ^ (x + 1) * 2 ^ y := by
    rw [Int.natAbs_mul]
    exact Nat.mul_le_mul (by omega) (by omega)
  have h2 : 2 ^ (x + y + 2) = 2 * (2 ^ (x + 1) * 2 ^ y) := by
    rw [← Nat.pow_add, show x + y + 2 = 1 + (x + 1 + y) by omega, Nat.pow_add 2 1]
  have h3 : 2 ^ x * 1 ≤ 2 ^ (x + 1) * 2 ^ y := Nat.mul_le_mul (Nat.pow_le_pow_right (by omega) (by omega)) Nat.one_le_two_pow
  omega
theorem left_bds {W : Nat} {L : List Pt} {E : Nat → Nat} (h : Hnf W L E) {p : Nat → Int} {x y : Nat} (hp : ∀ j, (p j).natAbs < 2 ^ x) (hy : ∀ i, i < L.length → Bd y (L.getD i [])) : ∀ n, n ≤ L.length → ∀ j, (leftF L E p n j).natAbs < 2 ^ (x + n * (y + 2))
  | 0, _, j => by rw [Nat.zero_mul]; exact hp j
  | n + 1, hn, j => by
    have ih := left_bds h hp hy n (by omega)
    have hq := left_q (d := pe L n (E n)) (by have := h.pos n (by omega); omega) (ih (E n))
    have hb := left_bd (ih j) hq (vf_bd (hy n (by omega)) j)
    have e : x + n * (y + 2) + y + 2 = x + (n + 1) * (y + 2) := by rw [Nat.succ_mul]; omega
    rw [e] at hb
    exact hb
def insideB (L : List Pt) (E : Nat → Nat) (p : Pt) : Bool := (leftP L E p L.length).all fun x => decide (x = 0)
theorem insideB_iff {W : Nat} {L : List Pt} {E : Nat → Nat} {p : Pt} (h : Hnf W L E) (hp : p.length = W) : insideB L E p = true ↔ Lat L.length (pe L) (vf p) := by
  have hz : ∀ n, n ≤ L.length → ∀ j, W ≤ j → leftF L E (vf p) n j = 0 := fun n => by
    induction n with
    | zero => intro _ j hj; exact vf_beyond (by omega)
    | succ n ih =>
      intro hn j hj
      show leftF L E (vf p) n j - _ * pe L n j = 0
      rw [ih (by omega) j hj, show pe L n j = 0 from vf_beyond (by rw [h.len n (by omega)]; exact hj)]
      omega
  unfold insideB leftP
  rw [List.all_map, List.all_eq_true]
  constructor
  · intro q
    refine lat_of_left (E := E) fun j => ?_
    by_cases hj : j < W
    · have := q j (List.mem_range.mpr (by omega))
      simpa using this
    · exact hz _ (Nat.le_refl _) j (by omega)
  · intro q j _
    have := left_zero h q j
    simpa using this
def REdge (ds : List PyData) (d : PyData) : Prop := ∃ (p : Pt) (e : Nat), ds = [ptD p] ∧ d = .int (e : Int) ∧ p.length ≤ 1000 ∧ (∀ j, j < e → vf p j = 0) ∧ vf p e ≠ 0
def RIsPt (ds : List PyData) (d : PyData) : Prop := ∃ (p : Pt), ds = [ptD p, .int (p.length : Int)] ∧ d = .bool true ∧ p.length ≤ 1000
def RIsStairs (ds : List PyData) (d : PyData) : Prop := ∃ (W : Nat) (L : List Pt) (E : Nat → Nat), ds = [.list (L.map ptD), .int (W : Int)] ∧ d = .bool true ∧ Hnf W L E ∧ W ≤ 100
structure LeftOk (W : Nat) (L : List Pt) (E : Nat → Nat) (p : Pt) (x y : Nat) : Prop where
  h : Hnf W L E
  len : p.length = W
  w : W ≤ 100
  bp : Bd x p
  by_ : ∀ i, i < L.length → Bd y (L.getD i [])
  bit : x + (W + 1) * (y + 2) < 100000000
def RLeft (ds es : List PyData) : Prop := ∃ (k : Bool) (W : Nat) (L : List Pt) (E : Nat → Nat) (p : Pt) (x y : Nat), ds = [.list (L.map ptD), seqD k (p.map .int)] ∧ es = (leftP L E p L.length).map .int ∧ LeftOk W L E p x y
def RInside (ds : List PyData) (d : PyData) : Prop := ∃ (k : Bool) (W : Nat) (L : List Pt) (E : Nat → Nat) (p : Pt) (x y : Nat), ds = [.list (L.map ptD), seqD k (p.map .int)] ∧ d = .bool (insideB L E p) ∧ LeftOk W L E p x y
theorem ints_flat : ∀ (p : List Int), PyData.canLayAll0 (p.map .int) = true ∧ PyData.depthAll (p.map .int) = 0
  | [] => ⟨rfl, rfl⟩
  | x :: p => by
    obtain ⟨a, b⟩ := ints_flat p
    rw [List.map_cons]
    constructor
    · simp [PyData.canLayAll0, PyData.canLay0, a]
    · simp [PyData.depthAll, PyData.depth, b]
theorem pts_flat : ∀ (S : List Pt), PyData.canLayAll0 (S.map ptD) = true ∧ PyData.depthAll (S.map ptD) ≤ 1
  | [] => ⟨rfl, Nat.zero_le _⟩
  | p :: S => by
    obtain ⟨a, b⟩ := pts_flat S
    obtain ⟨c, d⟩ := ints_flat p
    rw [List.map_cons]
    constructor
    · simp [PyData.canLayAll0, ptD, PyData.canLay0, a, c]
    · simp only [PyData.depthAll, ptD, PyData.depth, d]
      omega
theorem shaped_pt (p : Pt) : SeqAt.shaped (ptD p) = true := by
  obtain ⟨c, d⟩ := ints_flat p
  simp [SeqAt.shaped, ptD, PyData.canLay0, PyData.depth, c, d]
theorem shaped_pl (p : Pt) : SeqAt.shaped (plD p) = true := by
  obtain ⟨c, d⟩ := ints_flat p
  simp [SeqAt.shaped, plD, PyData.canLay0, PyData.depth, c, d]
theorem shaped_pts (S : List Pt) : SeqAt.shaped (.list (S.map ptD)) = true := by
  obtain ⟨c, d⟩ := pts_flat S
  have e : (PyData.list (S.map ptD)).depth ≤ 64 := by
    rw [PyData.depth]
    omega
  simp [SeqAt.shaped, PyData.canLay0, c, e]
theorem eqv_ints : ∀ (p q : List Int), PyData.eqvAll (p.map .int) (q.map .int) = decide (p = q)
  | [], [] => by simp [PyData.eqvAll]
  | [], y :: q => by simp [PyData.eqvAll]
  | x :: p, [] => by simp [PyData.eqvAll]
  | x :: p, y :: q => by
    rw [List.map_cons, List.map_cons, PyData.eqvAll, eqv_ints p q, PyData.eqv]
    by_cases h : x = y
    · simp [h]
    · simp [h]
theorem eqv_pt (p q : Pt) : PyData.eqv (ptD p) (ptD q) = decide (p = q) := by
  unfold ptD
  rw [PyData.eqv, eqv_ints]
theorem eqv_pl (p q : Pt) : PyData.eqv (plD p) (plD q) = decide (p = q) := by
  unfold plD
  rw [PyData.eqv, eqv_ints]
theorem eqv_ptsAll : ∀ (S T : List Pt), PyData.eqvAll (S.map ptD) (T.map ptD) = decide (S = T)
  | [], [] => by simp [PyData.eqvAll]
  | [], y :: q => by simp [PyData.eqvAll]
  | x :: p, [] => by simp [PyData.eqvAll]
  | x :: p, y :: q => by
    rw [List.map_cons, List.map_cons, PyData.eqvAll, eqv_ptsAll p q, eqv_pt]
    by_cases h : x = y
    · simp [h]
    · simp [h]
theorem eqv_pts (S T : List Pt) : PyData.eqv (.list (S.map ptD)) (.list (T.map ptD)) = decide (S = T) := by
  rw [PyData.eqv, eqv_ptsAll]
def spLaw (K : PySem.W.Frag) : Sp := fun vs H Q _ => ∃ (a : Addr) (ns : List Int), vs = [.ref a] ∧ Scr K H (.ref a) ns ∧ ns.length ≤ 63 ∧ ∀ H', Q (.bl true) H'
def spStairs (C : Addr) (K : PySem.W.Frag) : Sp := fun vs H Q _ => ∃ a W b S, vs = [.ref a] ∧ FieldAt C K H a W S ∧ Good W b S ∧ ∀ p xs H2, H p = none → Ex H H2 → H2 p = some (.lst xs) → DdAll K H2 xs ((stairP W S).map ptD) → Q (.ref p) H2
section
variable {K : PySem.W.Frag} {σ : L2.St} {H : Hp} {C : Addr} {E : XK}
theorem ef_stairs {i : Nat} {a : Addr} {W b : Nat} {S : List Pt} (hf : FieldAt C K H a W S) (hg : Good W b S) (h : σ[i]? = some (some (.ref a))) : EvF K (tCall (spStairs C K) [] E (tCons (tVar i) tNil)) σ H ((stairP W S).map ptD) := fun H1 e Q q =>
  ⟨_, h, a, W, b, S, rfl, hf.up e, hg, q⟩
theorem er_stepsZ {x : V} {ns : List Int} {ix W most p : Nat} {z : Int} {great : Bool} {tw tm tg : TE} (hz : z = (p : Int)) (hx : Scr K H x ns) (hn : ns.length ≤ 1000) (h1 : σ[ix]? = some (some x)) (hr : EvDs K (tCons tw (tCons tm (tCons tg tNil))) σ H [.int (W : Int), .int (most : Int), .bool great]) (hW : W ≤ 100) (hm : most ≤ 100) :
    EvR (tCall (spSteps K) [] E (tCons (tVar ix) (tCons (tLst (tCons (tC (.int z)) tNil)) (tCons tw (tCons tm (tCons tg tNil)))))) σ H (fun v H' => ∃ l xs S, v = .ref l ∧ Ex H H' ∧ H l = none ∧ H' l = some (.lst xs) ∧ DdAll K H' xs (S.map ptD) ∧ LSteps W most great S) := fun Q q => by
  subst hz
  refine ⟨x, h1, ?_⟩
  refine ⟨Evl.sz_of (by simp), fun sp hsp => ?_⟩
  have e1 : Ex H (upd H sp (.lst [.int (p : Int)])) := ex_new hsp
  refine hr _ e1 _ fun vs H2 e2 hv => ?_
  obtain ⟨a, b, c, rfl, ha, hb, hc⟩ := dd3 hv
  obtain rfl := dp_int ha
  obtain rfl := dp_int hb
  obtain rfl := dp_bl hc
  have h2 : H2 sp = some (.lst [.int (p : Int)]) := e2 sp _ upd_same
  refine ⟨x, sp, ns, p, W, most, great, rfl, hx.up (ex_tr e1 e2), hn, h2, hW, hm, fun l xs S H' p' hl e3 h3 hl' hd hS => ?_⟩
  refine q _ _ ⟨l, xs, S, rfl, fun b o hb => ?_, ex_back (ex_tr e1 e2) hl, hl', hd, hS⟩
  exact e3 b o (ex_tr e1 e2 b o hb) (ne_of_none hb hsp)
theorem er_steps {x : V} {ns : List Int} {ix W most : Nat} {great : Bool} {tw tm tg : TE} (hx : Scr K H x ns) (hn : ns.length ≤ 1000) (h1 : σ[ix]? = some (some x)) (hr : EvDs K (tCons tw (tCons tm (tCons tg tNil))) σ H [.int (W : Int), .int (most : Int), .bool great]) (hW : W ≤ 100) (hm : most ≤ 100) :
    EvR (tCall (spSteps K) [] E (tCons (tVar ix) (tCons (tLst (tCons (tC (.int 1)) tNil)) (tCons tw (tCons tm (tCons tg tNil)))))) σ H (fun v H' => ∃ l xs S, v = .ref l ∧ Ex H H' ∧ H l = none ∧ H' l = some (.lst xs) ∧ DdAll K H' xs (S.map ptD) ∧ LSteps W most great S) := er_stepsZ (p := 1) rfl hx hn h1 hr hW hm
theorem er_stepsV {x : V} {ns : List Int} {ix io W most p : Nat} {sp : Addr} {great : Bool} {tw tm tg : TE} (hx : Scr K H x ns) (hn : ns.length ≤ 1000) (h1 : σ[ix]? = some (some x)) (ho : σ[io]? = some (some (.ref sp))) (hs : H sp = some (.lst [.int (p : Int)])) (hr : EvDs K (tCons tw (tCons tm (tCons tg tNil))) σ H [.int (W : Int), .int (most : Int), .bool great]) (hW : W ≤ 100) (hm : most ≤ 100) :
    EvR (tCall (spSteps K) [] E (tCons (tVar ix) (tCons (tVar io) (tCons tw (tCons tm (tCons tg tNil)))))) σ H (fun v H' => ∃ l xs S p', v = .ref l ∧ Ex1 sp H H' ∧ H' sp = some (.lst [.int ((p' : Nat) : Int)]) ∧ H l = none ∧ H' l = some (.lst xs) ∧ DdAll K H' xs (S.map ptD) ∧ LSteps W most great S) := fun Q q => by
  refine ⟨x, h1, _, ho, ?_⟩
  refine hr _ ex_refl _ fun vs H2 e2 hv => ?_
  obtain ⟨a, b, c, rfl, ha, hb, hc⟩ := dd3 hv
  obtain rfl := dp_int ha
  obtain rfl := dp_int hb
  obtain rfl := dp_bl hc
  refine ⟨x, sp, ns, p, W, most, great, rfl, hx.up e2, hn, e2 sp _ hs, hW, hm, fun l xs S H' p' hl e3 h3 hl' hd hS => ?_⟩
  exact q _ _ ⟨l, xs, S, p', rfl, ex1_tr (ex1_of e2) e3, h3, ex_back e2 hl, hl', hd, hS⟩
end
theorem xs_up {b b' : Nat} (h : b ≤ b') : ∀ c, xs b c ≤ xs b' c
  | 0 => h
  | c + 1 => by
    have := xs_up h c
    show 6 * xs b c + 4 ≤ 6 * xs b' c + 4
    omega
theorem LSteps.good {W most : Nat} {great : Bool} {S : List Pt} (h : LSteps W most great S) (hW : W ≤ 4) (hm : most ≤ 20) : Good W 50 S := by
  refine ⟨h.ok (fun _ => by omega) (fun _ => by omega), by have := h.n; omega, by omega, ?_, ?_⟩
  · have := xs_mono 50 hW
    have e : xs 50 4 = 65836 := by decide
    omega
  · have := ys_mono 50 hW
    have e : ys 50 4 = 78998 := by decide
    omega
theorem ys4 {W : Nat} (hW : W ≤ 4) : ys 50 W ≤ 78998 := by
  have := ys_mono 50 hW
  have e : ys 50 4 = 78998 := by decide
  omega
theorem LSteps.fok {W most : Nat} {great : Bool} {S : List Pt} (h : LSteps W most great S) (h1 : 1 ≤ W) (hW : W ≤ 4) (hm : most ≤ 6) : FOk W S := ⟨h1, hW, by have := h.n; omega, h.len⟩
theorem left_of_step {W b : Nat} {S : List Pt} {E : Nat → Nat} (h : StepsOk W b S) (hE : Hnf W (stairP W S) E) {k : Nat} (hk : k < S.length) : insideB (stairP W S) E (S.getD k []) = true :=
  (insideB_iff hE (h.len k hk)).mpr ((stairP_lat h _).mpr (Lat.mem (g := pe S) hk))
theorem leftOk_of {W : Nat} {S : List Pt} {E : Nat → Nat} {p : Pt} {x : Nat} (h : StepsOk W 50 S) (hE : Hnf W (stairP W S) E) (hW : W ≤ 4) (hp : p.length = W) (hb : Bd x p) (hx : x ≤ 1000000) : LeftOk W (stairP W S) E p x (ys 50 W + 1) :=
  ⟨hE, hp, by omega, hb, fun i hi => stairP_bd h hi, by
    have := ys4 hW
    have : (W + 1) * (ys 50 W + 1 + 2) ≤ 5 * (ys 50 W + 1 + 2) := Nat.mul_le_mul_right _ (by omega)
    omega⟩
end SF
namespace SF
open PySem PySem.Spec PyProof.Rows L2
theorem lat_comb {n : Nat} {g : Nat → Nat → Int} {f : Nat → Int} (h : Lat n g f) : ∃ c : Nat → Int, ∀ j, f j = sumN n fun i => c i * g i j := by
  induction h with
  | zero => exact ⟨fun _ => 0, fun j => (sumN_zero fun i _ => Int.zero_mul _).symm⟩
  | @add f k c hk hf ih =>
    obtain ⟨d, hd⟩ := ih
    refine ⟨fun i => d i - (-c) * (if i < n ∧ i = k then (1 : Int) else 0), fun j => ?_⟩
    rw [sumN_lin, sumN_one (s := fun i => g i j) hk]
    show f j + c * g k j = _
    rw [hd j]
    have : -c * g k j = -(c * g k j) := Int.neg_mul _ _
    omega
theorem comb_lat {n : Nat} {g : Nat → Nat → Int} (c : Nat → Int) : ∀ m, m ≤ n → Lat n g (fun j => sumN m fun i => c i * g i j)
  | 0, _ => Lat.zero
  | m + 1, h => (comb_lat c m (by omega)).add m (c m) (by omega)
theorem lead_edge {W : Nat} {L : List Pt} {E : Nat → Nat} (h : Hnf W L E) {f : Nat → Int} {e : Nat} (hf : Lat L.length (pe L) f) (h0 : ∀ j, j < e → f j = 0) (he : f e ≠ 0) : ∃ i, i < L.length ∧ E i = e ∧ pe L i e ∣ f e := by
  obtain ⟨c, hc⟩ := lat_comb hf
  have first : ∀ m, m ≤ L.length → (∀ i, i < m → c i = 0) ∨ ∃ i, i < m ∧ c i ≠ 0 ∧ ∀ k, k < i → c k = 0 := fun m => by
    induction m with
    | zero => intro _; exact .inl fun i hi => absurd hi (Nat.not_lt_zero _)
    | succ m ih =>
      intro hm
      rcases ih (by omega) with a | ⟨i, h1, h2, h3⟩
      · by_cases z : c m = 0
        · exact .inl fun i hi => by
            by_cases q : i < m
            · exact a i q
            · have q : i = m := by omega
              rw [q]; exact z
        · exact .inr ⟨m, by omega, z, a⟩
      · exact .inr ⟨i, by omega, h2, h3⟩
  rcases first L.length (Nat.le_refl _) with a | ⟨i, h1, h2, h3⟩
  · exact absurd ((hc e).trans (sumN_zero fun i hi => by rw [a i hi, Int.zero_mul])) he
  · have low : ∀ j, j < E i → f j = 0 := fun j hj => by
      rw [hc]
      refine sumN_zero fun k hk => ?_
      by_cases q : k < i
      · rw [h3 k q, Int.zero_mul]
      · have : j < E k := by
          by_cases z : k = i
          · rw [z]; exact hj
          · have := h.mono i k (by omega) hk
            omega
        rw [h.zero k j hk this, Int.mul_zero]
    have v : f (E i) = c i * pe L i (E i) := by
      rw [hc]
      have : ∀ m, m ≤ L.length → sumN m (fun k => c k * pe L k (E i)) = if i < m then c i * pe L i (E i) else 0 := fun m => by
        induction m with
        | zero => intro _; rw [if_neg (by omega)]; rfl
        | succ m ihm =>
          intro hm
          show sumN m _ + c m * pe L m (E i) = _
          rw [ihm (by omega)]
          by_cases a : i < m
          · rw [if_pos a, if_pos (by omega), h.zero m (E i) (by omega) (h.mono i m a (by omega))]
            omega
          · rw [if_neg a]
            by_cases b : i = m
            · subst b
              rw [if_pos (by omega)]; omega
            · rw [if_neg (by omega), h3 m (by omega)]
              omega
      rw [this L.length (Nat.le_refl _), if_pos h1]
    have hp := h.pos i h1
    have vn : f (E i) ≠ 0 := by
      rw [v]
      exact Int.mul_ne_zero h2 (by omega)
    have ee : E i = e := by
      rcases Nat.lt_trichotomy (E i) e with q | q | q
      · exact absurd (h0 _ q) vn
      · exact q
      · exact absurd (low e q) he
    refine ⟨i, h1, ee, ?_⟩
    rw [← ee, v]
    exact Int.dvd_mul_left _ _
theorem hnf_edges {W : Nat} {L L' : List Pt} {E E' : Nat → Nat} (h : Hnf W L E) (h' : Hnf W L' E') (s : SameLat L.length (pe L) L'.length (pe L')) : ∀ i, i < L.length → i < L'.length ∧ E' i = E i := by
  have there : ∀ i, i < L.length → ∃ k, k < L'.length ∧ E' k = E i := fun i hi => by
    obtain ⟨k, h1, h2, _⟩ := lead_edge h' (f := pe L i) (e := E i) ((s _).mp (Lat.mem hi)) (fun j hj => h.zero i j hi hj) (by have := h.pos i hi; omega)
    exact ⟨k, h1, h2⟩
  have back : ∀ i, i < L'.length → ∃ k, k < L.length ∧ E k = E' i := fun i hi => by
    obtain ⟨k, h1, h2, _⟩ := lead_edge h (f := pe L' i) (e := E' i) ((s _).mpr (Lat.mem hi)) (fun j hj => h'.zero i j hi hj) (by have := h'.pos i hi; omega)
    exact ⟨k, h1, h2⟩
  intro i
  induction i using Nat.strongRecOn with
  | _ i ih =>
    intro hi
    obtain ⟨k, hk, ek⟩ := there i hi
    have ge : i ≤ k := by
      rcases Nat.lt_or_ge k i with q | q
      · have := (ih k q (by omega)).2
        have := h.mono k i q hi
        omega
      · exact q
    refine ⟨by omega, ?_⟩
    rcases Nat.lt_or_ge i k with q | q
    · exfalso
      obtain ⟨m, hm, em⟩ := back i (by omega)
      have a := h'.mono i k q hk
      have lt : m < i := by
        rcases Nat.lt_or_ge m i with z | z
        · exact z
        · by_cases zz : m = i
          · rw [zz] at em; omega
          · have := h.mono i m (by omega) hm
            omega
      have b := (ih m lt hm).2
      have c := h'.mono m i lt (by omega)
      omega
    · have : k = i := by omega
      rw [← this]
      rw [← this] at ek
      exact ek
theorem SameLat.symm {n m : Nat} {g g' : Nat → Nat → Int} (h : SameLat n g m g') : SameLat m g' n g := fun f => (h f).symm
theorem SameLat.trans {n m k : Nat} {g g' g'' : Nat → Nat → Int} (h : SameLat n g m g') (h2 : SameLat m g' k g'') : SameLat n g k g'' := fun f => (h f).trans (h2 f)
theorem hnf_uniq {W : Nat} {L L' : List Pt} {E E' : Nat → Nat} (h : Hnf W L E) (h' : Hnf W L' E') (s : SameLat L.length (pe L) L'.length (pe L')) : L = L' := by
  have e1 := hnf_edges h h' s
  have e2 := hnf_edges h' h s.symm
  have hl : L.length = L'.length := by
    rcases Nat.lt_trichotomy L.length L'.length with q | q | q
    · exact absurd (e2 L.length q).1 (Nat.lt_irrefl _)
    · exact q
    · exact absurd (e1 L'.length q).1 (Nat.lt_irrefl _)
  have hd : ∀ i, i < L.length → pe L i (E i) = pe L' i (E i) := fun i hi => by
    have ee := (e1 i hi).2
    obtain ⟨k, h1, h2, h3⟩ := lead_edge h' (f := pe L i) (e := E i) ((s _).mp (Lat.mem hi)) (fun j hj => h.zero i j hi hj) (by have := h.pos i hi; omega)
    obtain ⟨m, g1, g2, g3⟩ := lead_edge h (f := pe L' i) (e := E i) ((s _).mpr (Lat.mem (by omega))) (fun j hj => h'.zero i j (by omega) (by omega)) (by have := h'.pos i (by omega); rw [ee] at this; omega)
    have ki : k = i := by
      rcases Nat.lt_trichotomy k i with q | q | q
      · have := h'.mono k i q (by omega); omega
      · exact q
      · have := h'.mono i k q h1; omega
    have mi : m = i := by
      rcases Nat.lt_trichotomy m i with q | q | q
      · have := h.mono m i q hi; omega
      · exact q
      · have := h.mono i m q g1; omega
    subst ki
    rw [mi] at g3
    have p1 := h.pos k hi
    have p2 := h'.pos k (by omega)
    rw [ee] at p2
    exact Int.dvd_antisymm (by omega) (by omega) g3 h3
  refine List.ext_getElem hl fun i hi hi' => ?_
  have z := red_zero h (q := fun j => pe L i j - pe L' i j) ((Lat.mem hi).minus ((s _).mpr (Lat.mem hi'))) fun k hk => by
    have ee := (e1 k hk).2
    have pk := h.pos k hk
    have dk := hd k hk
    show (pe L i (E k) - pe L' i (E k)).natAbs < _
    rcases Nat.lt_trichotomy k i with q | q | q
    · rw [h.zero i (E k) hi (h.mono k i q hi), h'.zero i (E k) hi' (by rw [← ee]; exact h'.mono k i q hi')]
      omega
    · subst q
      omega
    · have r1 := h.red i k q hk
      have r2 := h'.red i k q (by omega)
      rw [ee] at r2
      omega
  have hg : ∀ (M : List Pt) (hM : i < M.length), M.getD i [] = M[i] := fun M hM => by rw [List.getD_eq_getElem?_getD, List.getElem?_eq_getElem hM]; rfl
  have l1 := h.len i hi
  have l2 := h'.len i hi'
  rw [← hg L hi, ← hg L' hi']
  refine pt_ext (by rw [l1, l2]) fun j _ => ?_
  have := z j
  unfold pe at this
  omega
abbrev InL (S : List Pt) (p : Pt) : Prop := Lat S.length (pe S) (vf p)
abbrev SameL (S T : List Pt) : Prop := SameLat S.length (pe S) T.length (pe T)
theorem inl_mem {S : List Pt} {p : Pt} (h : p ∈ S) : InL S p := by
  obtain ⟨i, hi, rfl⟩ := List.mem_iff_getElem.mp h
  refine (Lat.mem (g := pe S) hi).of fun j => ?_
  unfold pe
  rw [List.getD_eq_getElem?_getD, List.getElem?_eq_getElem hi]; rfl
theorem inl_sub {S T : List Pt} (h : ∀ p ∈ S, InL T p) {f : Nat → Int} (hf : Lat S.length (pe S) f) : Lat T.length (pe T) f := Lat.sub (fun k hk => (h (S.getD k []) (by rw [List.getD_eq_getElem?_getD, List.getElem?_eq_getElem hk]; exact List.getElem_mem hk))) hf
theorem sameL_of {S T : List Pt} (h : ∀ p ∈ S, InL T p) (h' : ∀ p ∈ T, InL S p) : SameL S T := fun f => ⟨inl_sub h, inl_sub h'⟩
theorem inl_zero {S : List Pt} {p : Pt} (h : ∀ j, vf p j = 0) : InL S p := Lat.zero.of fun j => (h j).symm
theorem sameL_reverse (S : List Pt) : SameL S S.reverse := sameL_of (fun p hp => inl_mem (List.mem_reverse.mpr hp)) fun p hp => inl_mem (List.mem_reverse.mp hp)
theorem sameL_set {S : List Pt} {a : Nat} {q p : Pt} (ha : S[a]? = some p) (hq : InL S q) (hp : InL (S.set a q) p) : SameL S (S.set a q) := by
  refine sameL_of (fun r hr => ?_) fun r hr => ?_
  · obtain ⟨i, hi, rfl⟩ := List.mem_iff_getElem.mp hr
    by_cases z : i = a
    · subst z
      rw [List.getElem?_eq_getElem hi] at ha
      rw [Option.some.inj ha]
      exact hp
    · refine inl_mem (List.mem_iff_getElem?.mpr ⟨i, ?_⟩)
      rw [List.getElem?_set_ne (fun x => z x.symm)]
      exact List.getElem?_eq_getElem hi
  · rcases List.mem_or_eq_of_mem_set hr with h | h
    · exact inl_mem h
    · rw [h]; exact hq
theorem sameL_more {S T : List Pt} {q : Pt} (h : ∀ p ∈ S, p ∈ T) (h' : ∀ p ∈ T, p ∈ S ∨ p = q) (hq : InL S q) : SameL S T := sameL_of (fun p hp => inl_mem (h p hp)) fun p hp => (h' p hp).elim inl_mem fun e => e ▸ hq
theorem stairP_uniq {W b b' : Nat} {S T : List Pt} (h : StepsOk W b S) (h' : StepsOk W b' T) (s : SameL S T) : stairP W S = stairP W T := by
  obtain ⟨E, hE⟩ := stairP_hnf h
  obtain ⟨E', hE'⟩ := stairP_hnf h'
  exact hnf_uniq hE hE' ((stairP_lat h).trans (s.trans (stairP_lat h').symm))
theorem stairP_eq_iff {W b b' : Nat} {S T : List Pt} (h : StepsOk W b S) (h' : StepsOk W b' T) : stairP W S = stairP W T ↔ SameL S T := by
  refine ⟨fun e => ?_, stairP_uniq h h'⟩
  have a := stairP_lat h
  have c := stairP_lat h'
  rw [e] at a
  exact a.symm.trans c
def madeP (W : Nat) (S : List Pt) (cs : List Int) : Pt := (List.range W).map fun j => cmb S cs j
theorem madeP_len (W : Nat) (S : List Pt) (cs : List Int) : (madeP W S cs).length = W := by simp [madeP]
theorem madeP_vf {W : Nat} {S : List Pt} (hS : ∀ k, k < S.length → (S.getD k []).length = W) (cs : List Int) (j : Nat) : vf (madeP W S cs) j = cmb S cs j := by
  by_cases hj : j < W
  · unfold madeP vf
    simp [List.getD_eq_getElem?_getD, hj]
  · rw [vf_beyond (by rw [madeP_len]; omega)]
    unfold cmb
    exact (sumN_zero fun i hi => by
      rw [show pe S i j = 0 from vf_beyond (by rw [hS i hi]; omega), Int.mul_zero]).symm
theorem inl_made {W : Nat} {S : List Pt} (hS : ∀ k, k < S.length → (S.getD k []).length = W) (cs : List Int) : InL S (madeP W S cs) := (comb_lat (fun i => vf cs i) S.length (Nat.le_refl _)).of fun j => (madeP_vf hS cs j).symm
def RMade (ds es : List PyData) : Prop := ∃ (W a b : Nat) (S : List Pt) (cs : List Int), ds = [.int (W : Int), .list (S.map ptD), .list (cs.map .int)] ∧ es = (madeP W S cs).map .int ∧ StepsOk W b S ∧ Bd a cs ∧ W ≤ 100 ∧ S.length ≤ 1000 ∧ a + b < 100000000
end SF
namespace SF
open PySem PySem.Spec PyProof.Rows L2 PySem.Calls PySem.W
section
variable {prog : Program} {w : World} {A : Around} {E : Value → Shared → Prop} {s : Shared} {it l : Addr} {items : Array Value}
theorem ext_rev {R : Result → Shared → Prop} (hh : A.handled = none) (hit : s.heap.IsRevIter it l ((items.size : Int) - 1)) (hl : s.heap.IsList l items) (hne : l ≠ it) (hn : items.size ≤ sizeLine) (S : Addr) (res : Value) (c₀ : Nat) (hSi : S ≠ it) (hSl : S ≠ l)
    (hS : s.heap.get? S = some { cls := .type "list", data := .seq #[] c₀ })
    (hR : ∀ h' tk acc' c', (∀ b o, b ≠ S → b ≠ it → s.heap.get? b = some o → h'.get? b = some o) → h'.get? S = some { cls := .type "list", dict := none, data := .seq acc' c', slots := #[] } →
      ItemsOf (fun i v => items[items.size - 1 - i]? = some v) acc' items.size → R (.ok (.ret res)) { s with heap := h', toks := tk }) :
    wpAny (model prog w) A.in1 (Builtin.List.listExtendWith (.ref S) (.ref it) res)
      (fun fin s' => match fin with | .done f => R (.ok f) s' | .again c' => c'.quiet = true ∧ codeAny (model prog w) A c' R s') (fun e s' => R (.error e) s') s := by
  have W := (Walks.listRev (prog := prog) (w := w) (A := A.in1) hh it l hne items).toS
  have hSf : S ∉ [it, l] := by simp only [List.mem_cons, List.not_mem_nil, or_false, not_or]; exact ⟨hSi, hSl⟩
  have hT : s.TypeIs (.ref it) "list_reverseiterator" := hit.typeIs
  have h1 : Builtin.List.listSameRef (.ref S) (.ref it) = false := by simp [Builtin.List.listSameRef, hSi]
  unfold Builtin.List.listExtendWith
  refine wpAny_bind (wpAny_typeOf hT ?_)
  rw [if_neg (by rw [h1]; decide)]
  refine wpAny_bind (wpAny_pyIter_revIter hit ?_)
  refine wpAny_bind (wpAny_holding ?_)
  unfold Builtin.List.listLengthHint
  refine wpAny_bind (wpAny_specialOf hT RT.nolen_lri ?_)
  show wpAny _ A.in1 (specialOf (Value.ref it) (Str.ofString "__length_hint__") >>= _) _ _ _
  refine wpAny_bind (wpAny_specialOf hT RT.hint_lri ?_)
  generalize hid : ("list_reverseiterator.__length_hint__" : String) = id0
  wp_delta
  rw [show splitId id0 = some ("list_reverseiterator", "__length_hint__") from by subst hid; decide +kernel]
  subst hid
  refine wpAny_bind (wpAny_isInstance (b := true) hT (by rw [isSubtype_type]; kernel_rfl) ?_)
  refine wpAny_pure ?_
  rw [if_neg (by decide)]
  have e0 : ((items.size : Nat) : Int) - 1 - ((0 : Nat) : Int) = (items.size : Int) - 1 := by omega
  refine wpAny_pure ⟨plainId_quiet F.plain_extend_loop _, codeAny_extend_loopS W hn _ hSf _ items.size 0 _ _ _ rfl (Nat.zero_le _) ⟨Nat.zero_le _, by rw [e0]; exact hit, hl⟩ hS (ItemsOf.nil _) fun s' acc' c' hm hS' hacc => ?_⟩
  rw [Moved.eq_with hm]
  refine hR s'.heap s'.toks acc' c' (fun b o hb hb2 e => hm.heap b o (fun hmem => ?_) e) hS' hacc
  rcases List.mem_cons.mp hmem with e' | hmem
  · exact hb e'
  · exact hb2 (List.mem_singleton.mp hmem)
theorem init_rev {R : Result → Shared → Prop} (hh : A.handled = none) (hit : s.heap.IsRevIter it l ((items.size : Int) - 1)) (hl : s.heap.IsList l items) (hne : l ≠ it) (hn : items.size ≤ sizeLine) (S : Addr) (hSi : S ≠ it) (hSl : S ≠ l)
    (hS : s.heap.get? S = some { cls := .type "list", data := .seq #[] })
    (hR : ∀ h' tk acc' c', (∀ b o, b ≠ S → b ≠ it → s.heap.get? b = some o → h'.get? b = some o) → h'.get? S = some { cls := .type "list", dict := none, data := .seq acc' c', slots := #[] } →
      ItemsOf (fun i v => items[items.size - 1 - i]? = some v) acc' items.size → R (.ok (.ret .none)) { s with heap := h', toks := tk }) :
    wpAny (model prog w) A.in1 (Builtin.«list.__init__» ⟨[.ref S, .ref it], []⟩)
      (fun fin s' => match fin with | .done f => R (.ok f) s' | .again c' => c'.quiet = true ∧ codeAny (model prog w) A c' R s') (fun e s' => R (.error e) s') s := by
  show wpAny _ A.in1 (do let old ← Builtin.List.listItems (.ref S); Builtin.List.listUpdate (.ref S) (fun _ => #[]); letGo old.toList.reverse; Builtin.List.listExtendWith (.ref S) (.ref it) .none) _ _ s
  refine wpAny_bind ?_
  unfold Builtin.List.listItems
  refine wpAny_bind (wpAny_seqItems hS rfl (wpAny_pure ?_))
  show wpAny _ A.in1 (updateSeq S (fun _ => #[]) >>= fun _ => letGo (#[] : Array Value).toList.reverse >>= fun _ => Builtin.List.listExtendWith (.ref S) (.ref it) .none) _ _ s
  refine wpAny_bind (wpAny_updateSeq hS rfl ?_)
  have hS₂ := Heap.get?_update_self (Obj.mapSeq (fun _ => (#[] : Array Value))) hS rfl
  have oth : ∀ b o, b ≠ S → s.heap.get? b = some o → (s.heap.update S (Obj.mapSeq (fun _ => (#[] : Array Value)))).get? b = some o :=
    fun b o hb e => (Heap.get?_update_other _ _ (Ne.symm hb)).trans e
  refine wpAny_bind (wpAny_letGo ?_)
  refine ext_rev (s := { s with heap := s.heap.update S (Obj.mapSeq (fun _ => (#[] : Array Value))) }) hh (hit.at fun o e => oth it o (Ne.symm hSi) e) (hl.at fun o e => oth l o (Ne.symm hSl) e) hne hn S .none _ hSi hSl hS₂ fun h' tk acc' c' hk hS' hacc => ?_
  exact hR h' tk acc' c' (fun b o hb hb2 e => hk b o hb hb2 (oth b o hb e)) hS' hacc
theorem call_list_rev {Q : Value → Shared → Prop} (hh : A.handled = none) (hit : s.heap.IsRevIter it l ((items.size : Int) - 1)) (hl : s.heap.IsList l items) (hne : l ≠ it) (hn : items.size ≤ sizeLine)
    (hQ : ∀ h' tk acc' c', (∀ b o, b ≠ it → s.heap.get? b = some o → h'.get? b = some o) →
      h'.get? s.heap.objs.size = some { cls := .type "list", dict := none, data := .seq acc' c', slots := #[] } → ItemsOf (fun i v => items[items.size - 1 - i]? = some v) acc' items.size → Q (.ref s.heap.objs.size) { s with heap := h', toks := tk }) :
    wpAny (model prog w) A (call (.type "list") [.ref it]) Q E s := by
  obtain ⟨oi, hoi, _⟩ := id hit
  obtain ⟨ol, hol, _⟩ := id hl
  have hSi : s.heap.objs.size ≠ it := Nat.ne_of_gt (Heap.lt_size hoi)
  have hSl : s.heap.objs.size ≠ l := Nat.ne_of_gt (Heap.lt_size hol)
  refine callType_codes (Q₁ := fun obj s₁ => obj = .ref s.heap.objs.size ∧ s₁ = { s with heap := s.heap.push { cls := .type "list", data := .seq #[] } }) F.called_list (F.typeCall_list_1 _) F.entry_list_init
    (code_list_new _ ⟨rfl, rfl⟩) fun obj s₁ h₁ => ?_
  obtain ⟨rfl, rfl⟩ := h₁
  have hS : (s.heap.push { cls := .type "list", data := .seq #[] }).get? s.heap.objs.size = some { cls := .type "list", data := .seq #[] } := Heap.get?_push_size _ rfl
  refine ⟨⟨_, hS, rfl⟩, F.args_list_init_2 _ _, init_rev (A := A.in1) (s := { s with heap := s.heap.push { cls := .type "list", data := .seq #[] } }) hh (hit.at fun o e => Heap.get?_push_of_some _ e) (hl.push _) hne hn _ hSi hSl hS fun h' tk acc' c' hk hS' hacc => ?_⟩
  exact ⟨rfl, hQ h' tk acc' c' (fun b o hb e => hk b o (Nat.ne_of_lt (Heap.lt_size e)) hb (Heap.get?_push_of_some _ e)) hS' hacc⟩
end
def tListRev (K : PySem.W.Frag) (te : TE) : TE := fun σ H Q => te σ H fun v H1 => ∃ (a : Addr) (xs : List V), v = .ref a ∧ SqL K H1 a xs ∧ ∀ q, H1 q = none → Q (.ref q) (upd H1 q (.lst xs.reverse))
section
variable {X : Cx} (K : PySem.W.Frag)
theorem pe_listRev {e : Expr} {te : TE} {p p2 pos pos2 : Pos} (hc : X.calm = true) (hg : Gl X "list") (hm : X.mg "list" = none) (hg2 : Gl X "reversed") (hm2 : X.mg "reversed" = none) (he : PE X e te) (h : X.K = K := by rfl)
    (hs : starEach [e] X.env = (false, eval e X.env) :: starEach [] X.env := by rfl)
    (hs2 : starEach [.Call (.Name "reversed" p2) [e] [] pos2] X.env = (false, eval (.Call (.Name "reversed" p2) [e] [] pos2) X.env) :: starEach [] X.env := by rfl) :
    PE X (.Call (.Name "list" p) [.Call (.Name "reversed" p2) [e] [] pos2] [] pos) (tListRev K te) := by
  subst h
  refine ⟨fun pins s σ H Q I h => ?_⟩
  refine Call_ (ld_blt I hg hm boot_list (PyProof.Rows.callWith_type1 (args_cons (Call_ (ld_blt I hg2 hm2 PyProof.Rows.boot_reversed (PyProof.Rows.callWith_type1 (args_cons (thn (he.run pins s σ H _ I h) fun u s1 ⟨v, H1, I1, r1, q1⟩ => args_nil ?_) hs) hs rfl))) hs2) hs2 rfl))
  obtain ⟨a, xs, ev, hq, q⟩ := q1
  subst ev
  obtain rfl : u = Value.ref a := r1
  obtain ⟨its, rv, p', hz⟩ := I1.list hq
  refine call_reversed_list p'.isList (args_nil ?_)
  have k0 : ∀ b o, s1.heap.get? b = some o → (s1.heap.push (revObj a ((its.toArray.size : Int) - 1))).get? b = some o := fun b o e => Heap.get?_push_of_some _ e
  have I2 : Inv X pins σ H1 { s1 with heap := s1.heap.push (revObj a ((its.toArray.size : Int) - 1)) } := I1.kept (t' := s1.toks) k0
  obtain ⟨f0, f1, f2, f3, f4, f5⟩ := I1.fpOk (H' := H1) (b := s1.heap.objs.size) (Nat.le_refl _) (I1.hok.fresh (Nat.le_refl _))
  have hl := p'.isList
  obtain ⟨ol, hol, _⟩ := id hl
  have hne : a ≠ s1.heap.objs.size := Nat.ne_of_lt (Heap.lt_size hol)
  have hn : its.toArray.size ≤ sizeLine := by rw [List.size_toArray, ← rv.length]; exact hz
  refine call_list_rev (s := { s1 with heap := s1.heap.push (revObj a ((its.toArray.size : Int) - 1)) }) (I1.ok.hd hc) ⟨_, Heap.get?_push_size _ rfl, rfl, rfl⟩ (hl.push _) hne hn fun h' tk acc c' hk hS' hi => ?_
  have hsz : s1.heap.objs.size ≤ (s1.heap.push (revObj a ((its.toArray.size : Int) - 1))).objs.size := by simp [Heap.push]
  refine ⟨.ref (s1.heap.push (revObj a ((its.toArray.size : Int) - 1))).objs.size, upd H1 (s1.heap.push (revObj a ((its.toArray.size : Int) - 1))).objs.size (.lst xs.reverse),
    I1.laid (t' := tk) (fun c o e => hk c o (Nat.ne_of_lt (Heap.lt_size e)) (Heap.get?_push_of_some _ e)) hsz (show ObjOk X.prog X.w _ _ _ (.lst xs.reverse) from ⟨by rw [List.length_reverse]; exact hz, acc.toList, c', RT.vals_rev rv hi, ?_⟩), rfl, q _ (I1.hok.fresh hsz)⟩
  rw [Array.toArray_toList]
  exact hS'
end
section
variable {K : PySem.W.Frag} {σ : L2.St} {H : Hp} {te : TE} {ds : List PyData}
theorem DdAll.rev {vs : List V} (h : DdAll K H vs ds) : DdAll K H vs.reverse ds.reverse := by
  have key : ∀ (vs : List V) (ds : List PyData), DdAll K H vs ds → DdAll K H vs.reverse ds.reverse := fun vs => by
    induction vs with
    | nil => intro ds h; cases h; exact .nil
    | cons v vs ih =>
      intro ds h
      cases h with
      | cons h1 h2 =>
        rw [List.reverse_cons, List.reverse_cons]
        exact (ih _ h2).app (.cons h1 .nil)
  exact key vs ds h
theorem ef_listRev (h : EvD K te σ H (.list ds)) : EvF K (tListRev K te) σ H ds.reverse := fun H1 e Q q =>
  h H1 e _ fun v H2 e2 hv => by
    obtain ⟨a, xs, rfl, hs, ha⟩ := dp_lst hv
    exact ⟨a, xs, rfl, hs, fun l hl => q l xs.reverse _ (ex_back e2 hl) (ex_tr e2 (ex_new hl)) upd_same (ha.rev.up (ex_new hl))⟩
end
end SF
namespace SF
open PySem PySem.Spec PyProof.Rows L2
def spAlike (C : Addr) (K : PySem.W.Frag) : Sp := fun vs H Q _ => ∃ a b W S T, vs = [.ref a, .ref b] ∧ FieldAt C K H a W S ∧ FieldAt C K H b W T ∧ ∀ H2, Ex H H2 → Q .non H2
def spSame (C : Addr) (K : PySem.W.Frag) : Sp := fun vs H Q _ => ∃ a b W k S T, vs = [.ref a, .ref b] ∧ FieldAt C K H a W S ∧ FieldAt C K H b W T ∧ Good W k S ∧ Good W k T ∧ ∀ H2, Ex H H2 → Q (.bl (decide (stairP W S = stairP W T))) H2
section
variable {K : PySem.W.Frag} {σ : L2.St} {H : Hp} {C : Addr} {E : XK} {ta tb : TE} {W k : Nat} {S T : List Pt}
theorem ev_field {i : Nat} {a : Addr} (hf : FieldAt C K H a W S) (h : σ[i]? = some (some (.ref a))) : ∀ H1, Ex H H1 → ∀ Q : VK, (∀ a H2, Ex H1 H2 → FieldAt C K H2 a W S → Q (.ref a) H2) → (tVar i) σ H1 Q := fun H1 e Q q => ⟨_, h, q a H1 ex_refl (hf.up e)⟩
def EvFd (C : Addr) (K : PySem.W.Frag) (te : TE) (σ : L2.St) (H : Hp) (W : Nat) (S : List Pt) : Prop := ∀ H1, Ex H H1 → ∀ Q : VK, (∀ a H2, Ex H1 H2 → FieldAt C K H2 a W S → Q (.ref a) H2) → te σ H1 Q
theorem EvM.fd (h : EvM C K ta σ H W S) : EvFd C K ta σ H W S := fun H1 e Q q => h H1 e Q fun a H2 _ => q a H2
theorem fd_var {i : Nat} {a : Addr} (hf : FieldAt C K H a W S) (h : σ[i]? = some (some (.ref a))) : EvFd C K (tVar i) σ H W S := fun H1 e Q q => ⟨_, h, q a H1 ex_refl (hf.up e)⟩
theorem ef_stairsM (h : EvFd C K ta σ H W S) (hg : Good W k S) : EvF K (tCall (spStairs C K) [] E (tCons ta tNil)) σ H ((stairP W S).map ptD) := fun H1 e Q q =>
  h H1 e _ fun a H2 e2 hF => ⟨a, W, k, S, by simp, hF, hg, fun p xs H3 hp e3 => q p xs H3 (ex_back e2 hp) (ex_tr e2 e3)⟩
theorem ev_alike (h : EvFd C K ta σ H W S) (h2 : EvFd C K tb σ H W T) : EvD K (tCall (spAlike C K) [] E (tCons ta (tCons tb tNil))) σ H .none := fun H1 e Q q =>
  h H1 e _ fun a H2 e2 hF => h2 H2 (ex_tr e e2) _ fun b H3 e3 hF2 => ⟨a, b, W, S, T, by simp, hF.up e3, hF2, fun H4 e4 => q _ H4 (ex_tr e2 (ex_tr e3 e4)) .non⟩
theorem ev_same (h : EvFd C K ta σ H W S) (h2 : EvFd C K tb σ H W T) (hg : Good W k S) (hg2 : Good W k T) : EvD K (tCall (spSame C K) [] E (tCons ta (tCons tb tNil))) σ H (.bool (decide (stairP W S = stairP W T))) := fun H1 e Q q =>
  h H1 e _ fun a H2 e2 hF => h2 H2 (ex_tr e e2) _ fun b H3 e3 hF2 => ⟨a, b, W, k, S, T, by simp, hF.up e3, hF2, hg, hg2, fun H4 e4 => q _ H4 (ex_tr e2 (ex_tr e3 e4)) (.bl _)⟩
end
section
variable {K : PySem.W.Frag} {a b : Bool}
theorem rd_isB : RD K rIsB (.bool a) (.bool b) (.bool (decide (a = b))) := fun x y H hx hy Q q => by
  cases hx; cases hy; exact ⟨a, b, rfl, rfl, q _ H ex_refl (.bl _)⟩
theorem rd_notB : RD K rNotB (.bool a) (.bool b) (.bool (!decide (a = b))) := fun x y H hx hy Q q => by
  cases hx; cases hy; exact ⟨a, b, rfl, rfl, q _ H ex_refl (.bl _)⟩
end
def rIns : V → List V → Hp → VK → Prop := fun x vs H Q => ∃ (l : Addr) (xs : List V) (i : Int) (y : V), x = .ref l ∧ vs = [.int i, y] ∧ H l = some (.lst xs) ∧ xs.length < sizeLine ∧ 0 ≤ i ∧ i < 2 ^ 63 ∧
    Q .non (upd H l (.lst (xs.take i.toNat ++ [y] ++ xs.drop i.toNat)))
theorem mt_ins {X : Cx} : MtR X "list.insert" rIns := mt_insert
theorem tupOAll_sub : ∀ {ds es : List PyData}, tupOAll ds = true → (∀ d ∈ es, d ∈ ds) → tupOAll es = true := fun {ds es} h hs => tupOAll_iff.mpr fun d hd => tupOAll_iff.mp h d (hs d hd)
theorem s_insO {K : PySem.W.Frag} {σ : L2.St} {H H0 : Hp} {te ti : TE} {D : Ends} {l : Addr} {io : Nat} {i : Int} {ds : List PyData} {d : PyData} (o : Own K H0 H l ds) (ho : σ[io]? = some (some (.ref l))) (hi : EvD K ti σ H (.int i)) (hi0 : 0 ≤ i) (hi1 : i < 2 ^ 63) (h : EvD K te σ H d) (hd : tupO d = true) (hz : ds.length < 100000)
    (k : ∀ H1, TEx H H1 → Own K H0 H1 l (ds.take i.toNat ++ [d] ++ ds.drop i.toNat) → D.nx σ H1) : tDrop (tBM K "list" rIns (tVar io) (tCons ti (tCons te tNil))) D σ H := by
  obtain ⟨xs0, h10, h20⟩ := o.at_
  refine ⟨_, ho, Or.inl ⟨rfl, xs0, SqL.of h10⟩, ?_⟩
  refine hi H ex_refl _ fun w H1 e1 hw => ?_
  obtain rfl := dp_int hw
  refine h H1 e1 _ fun v H2 e2 hv => ?_
  have o2 := o.up (ex_tr e1 e2)
  obtain ⟨xs, h1, h2⟩ := o2.at_
  refine ⟨l, xs, i, v, rfl, rfl, h1, Evl.sz_lt (by rw [h2.len]; exact hz), hi0, hi1, ?_⟩
  refine k _ (tex_tr (tex_of (ex_tr e1 e2)) (tex_upd h1)) (o2.put h1 (((h2.takeN _).app (.cons hv .nil)).app (h2.dropN _)) ?_)
  exact tupOAll_app (tupOAll_app (tupOAll_sub o.tup fun d hd => List.mem_of_mem_take hd) (by simp [tupOAll, hd])) (tupOAll_sub o.tup fun d hd => List.mem_of_mem_drop hd)
theorem sumN_bd {n : Nat} {f : Nat → Int} {B : Nat} (h : ∀ i, i < n → (f i).natAbs ≤ B) : (sumN n f).natAbs ≤ n * B := by
  induction n with
  | zero => exact Nat.zero_le _
  | succ n ih =>
    have a := ih fun i hi => h i (by omega)
    have b := h n (by omega)
    show (sumN n f + f n).natAbs ≤ _
    rw [Nat.succ_mul]
    omega
theorem cmb_bd {S : List Pt} {cs : List Int} {A B : Nat} (hc : ∀ i, i < S.length → (vf cs i).natAbs ≤ A) (hS : ∀ i, i < S.length → ∀ j, (pe S i j).natAbs ≤ B) (j : Nat) : (cmb S cs j).natAbs ≤ S.length * (A * B) :=
  sumN_bd fun i hi => by
    rw [Int.natAbs_mul]
    exact Nat.mul_le_mul (hc i hi) (hS i hi j)
theorem madeP_bd {W : Nat} {S : List Pt} {cs : List Int} {b : Nat} (h : ∀ j, j < W → (cmb S cs j).natAbs < 2 ^ b) : Bd b (madeP W S cs) := fun x hx => by
  obtain ⟨j, hj, rfl⟩ := List.mem_map.mp hx
  exact h j (List.mem_range.mp hj)
theorem cmb_two {p q : Pt} {x y : Int} (j : Nat) : cmb [p, q] [x, y] j = x * vf p j + y * vf q j := by
  show 0 + vf [x, y] 0 * pe [p, q] 0 j + vf [x, y] 1 * pe [p, q] 1 j = _
  show 0 + x * vf p j + y * vf q j = _
  omega
theorem stepsOk_mem {W b : Nat} {S : List Pt} (h : ∀ p ∈ S, p.length = W ∧ Bd b p) : StepsOk W b S := by
  have g : ∀ k, k < S.length → S.getD k [] ∈ S := fun k hk => by
    rw [List.getD_eq_getElem?_getD, List.getElem?_eq_getElem hk]; exact List.getElem_mem hk
  exact ⟨fun k hk => (h _ (g k hk)).1, fun k hk => (h _ (g k hk)).2⟩
theorem StepsOk.mem {W b : Nat} {S : List Pt} (h : StepsOk W b S) {p : Pt} (hp : p ∈ S) : p.length = W ∧ Bd b p := by
  obtain ⟨k, hk, rfl⟩ := List.mem_iff_getElem.mp hp
  have e : S.getD k [] = S[k] := by rw [List.getD_eq_getElem?_getD, List.getElem?_eq_getElem hk]; rfl
  rw [← e]
  exact ⟨h.len k hk, h.bd k hk⟩
theorem good4 {W : Nat} {S : List Pt} (h : StepsOk W 50 S) (hW : W ≤ 4) (hn : S.length ≤ 100) : Good W 50 S := by
  refine ⟨h, hn, by omega, ?_, ?_⟩
  · have := xs_mono 50 hW
    have e : xs 50 4 = 65836 := by decide
    omega
  · have := ys4 hW
    omega
theorem Bd.up {a b : Nat} {p : Pt} (h : Bd a p) (e : a ≤ b) : Bd b p := fun x hx => Nat.lt_of_lt_of_le (h x hx) (Nat.pow_le_pow_right (by omega) e)
end SF
namespace SF
open PySem PySem.Spec PyProof.Rows L2
def wdot (n : Nat) (p q : Nat → Int) : Int := sumN n fun j => p j * q j
theorem sumN_single {n k : Nat} {f : Nat → Int} (hk : k < n) (h : ∀ i, i < n → i ≠ k → f i = 0) : sumN n f = f k := by
  have : ∀ m, m ≤ n → sumN m f = if k < m then f k else 0 := fun m => by
    induction m with
    | zero => intro _; rw [if_neg (by omega)]; rfl
    | succ m ih =>
      intro hm
      show sumN m f + f m = _
      rw [ih (by omega)]
      by_cases a : k < m
      · rw [if_pos a, if_pos (by omega), h m (by omega) (by omega)]; omega
      · rw [if_neg a]
        by_cases b : m = k
        · rw [b, if_pos (by omega)]; omega
        · rw [if_neg (by omega), h m (by omega) b]; omega
  rw [this n (Nat.le_refl _), if_pos hk]
theorem wdot_comm (n : Nat) (p q : Nat → Int) : wdot n p q = wdot n q p := sumN_congr fun i _ => Int.mul_comm _ _
theorem wdot_lin {n : Nat} {p q r : Nat → Int} (m : Int) : wdot n p (fun j => q j - m * r j) = wdot n p q - m * wdot n p r := by
  rw [wdot_comm, wdot_comm n p q, wdot_comm n p r]
  exact sumN_lin m
theorem wdot_zero {n : Nat} {p : Nat → Int} : wdot n p (fun _ => 0) = 0 := sumN_zero fun i _ => Int.mul_zero _
theorem wdot_lat {W n : Nat} {g : Nat → Nat → Int} {w : Nat → Int} {m : Int} (h : ∀ k, k < n → m ∣ wdot W w (g k)) {f : Nat → Int} (hf : Lat n g f) : m ∣ wdot W w f := by
  induction hf with
  | zero => rw [wdot_zero]; exact Int.dvd_zero _
  | @add f k c hk hf ih =>
    have e : (fun j => f j + c * g k j) = fun j => f j - (-c) * g k j := funext fun j => by rw [Int.neg_mul]; omega
    rw [e, wdot_lin]
    exact Int.dvd_sub ih (Int.dvd_mul_of_dvd_right (h k hk))
def wtsN (L : List Pt) (E : Nat → Nat) (W c r : Nat) : Nat → (Nat → Int) × Int
  | 0 => (fun j => if j = c then 1 else 0, 1)
  | i + 1 => (fun j => pe L (r - 1 - i) (E (r - 1 - i)) * (wtsN L E W c r i).1 j - wdot W (wtsN L E W c r i).1 (pe L (r - 1 - i)) * (if j < W ∧ j = E (r - 1 - i) then (1 : Int) else 0), (wtsN L E W c r i).2 * pe L (r - 1 - i) (E (r - 1 - i)))
structure Upto {W : Nat} {L : List Pt} {E : Nat → Nat} (h : Hnf W L E) (c r : Nat) : Prop where
  le : r ≤ L.length
  iff : ∀ k, k < L.length → (k < r ↔ E k < c)
theorem Upto.zero {W : Nat} {L : List Pt} {E : Nat → Nat} (h : Hnf W L E) : Upto h 0 0 := ⟨Nat.zero_le _, fun k _ => by omega⟩
theorem Upto.next {W : Nat} {L : List Pt} {E : Nat → Nat} {h : Hnf W L E} {c r : Nat} (u : Upto h c r) (hr : r < L.length) (e : E r = c) : Upto h (c + 1) (r + 1) := ⟨hr, fun k hk => by
  have := u.iff k hk
  by_cases z : k = r
  · rw [z, e]; omega
  · constructor
    · intro _; have := this.mp (by omega); omega
    · intro q
      rcases Nat.lt_trichotomy k r with a | a | a
      · omega
      · omega
      · have := h.mono r k a hk; omega⟩
theorem Upto.skip {W : Nat} {L : List Pt} {E : Nat → Nat} {h : Hnf W L E} {c r : Nat} (u : Upto h c r) (e : ∀ k, k < L.length → E k ≠ c) : Upto h (c + 1) r := ⟨u.le, fun k hk => by
  have := u.iff k hk
  have := e k hk
  omega⟩
theorem Upto.here {W : Nat} {L : List Pt} {E : Nat → Nat} {h : Hnf W L E} {c r : Nat} (u : Upto h c r) {k : Nat} (hk : k < L.length) (e : E k = c) : k = r := by
  have a : ¬ k < r := fun q => by have := (u.iff k hk).mp q; omega
  rcases Nat.lt_trichotomy k r with q | q | q
  · exact absurd q a
  · exact q
  · have b : ¬ E r < c := fun z => by have := (u.iff r (by omega)).mpr z; omega
    have := h.mono r k q hk
    omega
structure WtsOk (L : List Pt) (E : Nat → Nat) (W c r i : Nat) (w : Nat → Int) (m : Int) : Prop where
  dot : ∀ k, r - i ≤ k → k < r → wdot W w (pe L k) = 0
  at_ : w c = m
  pos : 0 < m
  up : ∀ j, c < j → w j = 0
theorem wts_ok {W : Nat} {L : List Pt} {E : Nat → Nat} {h : Hnf W L E} {c r : Nat} (u : Upto h c r) (hc : c < W) : ∀ i, i ≤ r → WtsOk L E W c r i (wtsN L E W c r i).1 (wtsN L E W c r i).2
  | 0, _ => ⟨fun k h1 h2 => absurd h1 (by omega), by show (if c = c then (1 : Int) else 0) = 1; rw [if_pos rfl], by show (0 : Int) < 1; decide, fun j hj => by show (if j = c then (1 : Int) else 0) = 0; rw [if_neg (by omega)]⟩
  | i + 1, hi => by
    have ih := wts_ok u hc i (by omega)
    generalize hw : (wtsN L E W c r i).1 = w at ih
    generalize hm : (wtsN L E W c r i).2 = m at ih
    have ha : r - 1 - i < r := by omega
    generalize hA : r - 1 - i = a at ha
    have haL : a < L.length := by have := u.le; omega
    have hE := (u.iff a haL).mp ha
    have hd := h.pos a haL
    have hEW := h.lt a haL
    have e1 : (wtsN L E W c r (i + 1)).1 = fun j => pe L a (E a) * w j - wdot W w (pe L a) * (if j < W ∧ j = E a then (1 : Int) else 0) := by
      rw [← hw, ← hA]; rfl
    have e2 : (wtsN L E W c r (i + 1)).2 = m * pe L a (E a) := by rw [← hm, ← hA]; rfl
    rw [e1, e2]
    have dotv : ∀ q : Nat → Int, wdot W (fun j => pe L a (E a) * w j - wdot W w (pe L a) * (if j < W ∧ j = E a then (1 : Int) else 0)) q = pe L a (E a) * wdot W w q - wdot W w (pe L a) * q (E a) := fun q => by
      unfold wdot
      rw [sumN_lin, sumN_one hEW, sumN_mul]
    refine ⟨fun k h1 h2 => ?_, ?_, Int.mul_pos ih.pos hd, fun j hj => ?_⟩
    · rw [dotv]
      by_cases z : k = a
      · rw [z, Int.mul_comm]; omega
      · rw [ih.dot k (by omega) h2, h.zero k (E a) (by have := u.le; omega) (h.mono a k (by omega) (by have := u.le; omega))]
        omega
    · show pe L a (E a) * w c - _ * _ = _
      rw [if_neg (by omega), ih.at_, Int.mul_comm, Int.mul_zero, Int.sub_zero]
    · show pe L a (E a) * w j - _ * _ = 0
      rw [if_neg (by omega), ih.up j hj, Int.mul_zero, Int.mul_zero, Int.sub_zero]
theorem wts_rows {W : Nat} {L : List Pt} {E : Nat → Nat} {h : Hnf W L E} {c r : Nat} (u : Upto h c r) (hc : c < W) {w : Nat → Int} {m : Int} (hw : WtsOk L E W c r r w m) {k : Nat} (hk : k < L.length) : wdot W w (pe L k) = if E k = c then m * pe L k c else 0 := by
  by_cases z : k < r
  · rw [hw.dot k (by omega) z, if_neg (by have := (u.iff k hk).mp z; omega)]
  · have ge : ¬ E k < c := fun q => z ((u.iff k hk).mpr q)
    by_cases e : E k = c
    · rw [if_pos e, ← hw.at_]
      refine sumN_single hc fun i hi hic => ?_
      rcases Nat.lt_or_ge i c with q | q
      · rw [h.zero k i hk (by omega), Int.mul_zero]
      · rw [hw.up i (by omega), Int.zero_mul]
    · rw [if_neg e]
      refine sumN_zero fun i hi => ?_
      rcases Nat.lt_or_ge c i with q | q
      · rw [hw.up i q, Int.zero_mul]
      · rw [h.zero k i hk (by omega), Int.mul_zero]
theorem wts_left {W : Nat} {L : List Pt} {E : Nat → Nat} {c r : Nat} (hc : c < W) {w : Nat → Int} {m : Int} (hw : WtsOk L E W c r r w m) {left : Nat → Int} (h0 : ∀ j, j < c → left j = 0) : wdot W w left = m * left c := by
  rw [← hw.at_]
  refine sumN_single hc fun i hi hic => ?_
  rcases Nat.lt_or_ge i c with q | q
  · rw [h0 i q, Int.mul_zero]
  · rw [hw.up i (by omega), Int.zero_mul]
def Out (W : Nat) (S : List Pt) (p : Nat → Int) (w : Nat → Int) (m : Int) : Prop := 2 ≤ m ∧ (∀ k, k < S.length → m ∣ wdot W w (pe S k)) ∧ ¬ m ∣ wdot W w p
theorem Out.not {W : Nat} {S : List Pt} {p w : Nat → Int} {m : Int} (h : Out W S p w m) : ¬ Lat S.length (pe S) p := fun q => h.2.2 (wdot_lat h.2.1 q)
theorem Out.same {W : Nat} {S T : List Pt} {p w : Nat → Int} {m : Int} (h : Out W S p w m) (s : SameL S T) : Out W T p w m := ⟨h.1, fun k hk => wdot_lat h.2.1 ((s _).mpr (Lat.mem hk)), h.2.2⟩
theorem out_at {W : Nat} {L : List Pt} {E : Nat → Nat} {h : Hnf W L E} {c r : Nat} (u : Upto h c r) (hc : c < W) {w : Nat → Int} {m : Int} (hw : WtsOk L E W c r r w m) {p left : Nat → Int} (hl : Lat L.length (pe L) (fun j => p j - left j)) (h0 : ∀ j, j < c → left j = 0)
    (hr : r < L.length) (e : E r = c) (h1 : 0 < left c) (h2 : left c < pe L r c) : Out W L p w (m * pe L r c) := by
  have hm := hw.pos
  have all : ∀ k, k < L.length → m * pe L r c ∣ wdot W w (pe L k) := fun k hk => by
    rw [wts_rows u hc hw hk]
    by_cases z : E k = c
    · rw [if_pos z, u.here hk z]
      exact Int.dvd_refl _
    · rw [if_neg z]; exact Int.dvd_zero _
  refine ⟨?_, all, fun q => ?_⟩
  · have : 1 * 2 ≤ m * pe L r c := Int.mul_le_mul (by omega) (by omega) (by decide) (by omega)
    omega
  · have a := wdot_lat all hl
    have e2 : (fun j => p j - left j) = fun j => p j - 1 * left j := funext fun j => by rw [Int.one_mul]
    rw [e2, wdot_lin, wts_left hc hw h0, Int.one_mul] at a
    have b : m * pe L r c ∣ m * left c := by
      have := Int.dvd_sub q a
      rwa [show wdot W w p - (wdot W w p - m * left c) = m * left c by omega] at this
    have d : pe L r c ∣ left c := Int.dvd_of_mul_dvd_mul_left (by omega) b
    have := Int.le_of_dvd h1 d
    omega
theorem out_free {W : Nat} {L : List Pt} {E : Nat → Nat} {h : Hnf W L E} {c r : Nat} (u : Upto h c r) (hc : c < W) {w : Nat → Int} {m : Int} (hw : WtsOk L E W c r r w m) {p left : Nat → Int} (hl : Lat L.length (pe L) (fun j => p j - left j)) (h0 : ∀ j, j < c → left j = 0)
    (e : ∀ k, k < L.length → E k ≠ c) (h1 : left c ≠ 0) : Out W L p w ((wdot W w p).natAbs + 1) := by
  have hm := hw.pos
  have all : ∀ k, k < L.length → (0 : Int) ∣ wdot W w (pe L k) := fun k hk => by
    rw [wts_rows u hc hw hk, if_neg (e k hk)]
    exact Int.dvd_zero _
  have a := Int.zero_dvd.mp (wdot_lat all hl)
  have e2 : (fun j => p j - left j) = fun j => p j - 1 * left j := funext fun j => by rw [Int.one_mul]
  rw [e2, wdot_lin, wts_left hc hw h0, Int.one_mul] at a
  have b : wdot W w p ≠ 0 := by
    have : m * left c ≠ 0 := Int.mul_ne_zero (by omega) h1
    omega
  refine ⟨by omega, fun k hk => by rw [Int.zero_dvd.mp (all k hk)]; exact Int.dvd_zero _, fun q => ?_⟩
  have := Int.le_of_dvd (by omega) (Int.dvd_natAbs.mpr q)
  omega
theorem wdot_bd {W : Nat} {p q : Nat → Int} {A B : Nat} (hp : ∀ j, (p j).natAbs ≤ A) (hq : ∀ j, (q j).natAbs ≤ B) : (wdot W p q).natAbs ≤ W * (A * B) := sumN_bd fun i _ => by
  rw [Int.natAbs_mul]
  exact Nat.mul_le_mul (hp i) (hq i)
theorem wts_bd {W : Nat} {L : List Pt} {E : Nat → Nat} {c r y : Nat} (hr : r ≤ L.length) (hW : W ≤ 100) (hy : ∀ i, i < L.length → Bd y (L.getD i [])) : ∀ i, i ≤ r → (∀ j, ((wtsN L E W c r i).1 j).natAbs < 2 ^ (1 + i * (y + 7))) ∧ (wtsN L E W c r i).2.natAbs < 2 ^ (1 + i * (y + 7))
  | 0, _ => by
    have e : 2 ^ (1 + 0 * (y + 7)) = 2 := by rw [Nat.zero_mul]
    rw [e]
    refine ⟨fun j => ?_, by show (1 : Int).natAbs < 2; decide⟩
    show (if j = c then (1 : Int) else 0).natAbs < 2
    split <;> decide
  | i + 1, hi => by
    obtain ⟨a, b⟩ := wts_bd (E := E) (c := c) hr hW hy i (by omega)
    have hb : ∀ j, (pe L (r - 1 - i) j).natAbs ≤ 2 ^ y := fun j => Nat.le_of_lt (vf_bd (hy (r - 1 - i) (by omega)) j)
    have hd := wdot_bd (W := W) (fun j => Nat.le_of_lt (a j)) hb
    generalize hX : 2 ^ (1 + i * (y + 7)) = X at *
    have eX : 2 ^ (1 + (i + 1) * (y + 7)) = 128 * (X * 2 ^ y) := by
      rw [← hX, show 1 + (i + 1) * (y + 7) = 7 + ((1 + i * (y + 7)) + y) by rw [Nat.succ_mul]; omega, Nat.pow_add, Nat.pow_add 2 (1 + i * (y + 7))]
    have x0 : 0 < X * 2 ^ y := Nat.mul_pos (by rw [← hX]; exact Nat.two_pow_pos _) (Nat.two_pow_pos _)
    have hd2 : W * (X * 2 ^ y) ≤ 100 * (X * 2 ^ y) := Nat.mul_le_mul_right _ hW
    rw [eX]
    refine ⟨fun j => ?_, ?_⟩
    · show (pe L (r - 1 - i) (E (r - 1 - i)) * (wtsN L E W c r i).1 j - wdot W (wtsN L E W c r i).1 (pe L (r - 1 - i)) * (if j < W ∧ j = E (r - 1 - i) then (1 : Int) else 0)).natAbs < _
      have m1 : (pe L (r - 1 - i) (E (r - 1 - i)) * (wtsN L E W c r i).1 j).natAbs ≤ X * 2 ^ y := by
        rw [Int.natAbs_mul, Nat.mul_comm]
        exact Nat.mul_le_mul (Nat.le_of_lt (a j)) (hb _)
      split
      · rw [Int.mul_one]; omega
      · rw [Int.mul_zero, Int.sub_zero]; omega
    · show ((wtsN L E W c r i).2 * pe L (r - 1 - i) (E (r - 1 - i))).natAbs < _
      have m1 : ((wtsN L E W c r i).2 * pe L (r - 1 - i) (E (r - 1 - i))).natAbs ≤ X * 2 ^ y := by
        rw [Int.natAbs_mul]
        exact Nat.mul_le_mul (Nat.le_of_lt b) (hb _)
      omega
structure RowsOk (W : Nat) (S : List Pt) (R : List Row) (E : Nat → Nat) (y : Nat) : Prop where
  hnf : Hnf W (R.map (·.1)) E
  ct : ∀ k, k < R.length → (row R k).2.length = S.length
  cc : ∀ k, k < R.length → ∀ j, vf (row R k).1 j = cmb S (row R k).2 j
  b1 : ∀ k, k < R.length → Bd y (row R k).1
  b2 : ∀ k, k < R.length → Bd y (row R k).2
  lat : SameL (R.map (·.1)) S
theorem map_row {R : List Row} {k : Nat} (hk : k < R.length) : (R.map (·.1)).getD k [] = (row R k).1 := by
  rw [List.getD_eq_getElem?_getD, List.getElem?_map, row_get hk]; rfl
theorem rows_ok {W b : Nat} {S : List Pt} (h : StepsOk W b S) : ∃ E, RowsOk W S (stairRows W S) E (ys b W + 1) := by
  have ok := stOk_all h W
  obtain ⟨E, hE⟩ := stairP_hnf h
  have hl := stairP_len h
  obtain ⟨_, hEE⟩ := ok.ech
  have hd := hEE.dl
  have hlen : (stairRows W S).length = (stairN S W).2 := by rw [← hl]; unfold stairP; rw [List.length_map]
  have er : ∀ k, k < (stairRows W S).length → row (stairRows W S) k = row (stairN S W).1 k := fun k hk => by
    unfold row stairRows
    rw [List.getD_eq_getElem?_getD, List.getElem?_take_of_lt (by omega), ← List.getD_eq_getElem?_getD]
  exact ⟨E, hE, fun k hk => by rw [er k hk]; exact ok.shp.ct k (by omega), fun k hk j => by rw [er k hk]; exact ok.cc k (by omega) j, fun k hk => by rw [er k hk]; exact bd_of (ok.bdA k (Nat.zero_le _) (by omega)).1, fun k hk => by rw [er k hk]; exact bd_of (ok.bdA k (Nat.zero_le _) (by omega)).2, stairP_lat h⟩
def qF (L : List Pt) (E : Nat → Nat) (p : Nat → Int) (n : Nat) : Int := (leftF L E p n (E n)).fdiv (pe L n (E n))
def cntF (R : List Row) (E : Nat → Nat) (p : Nat → Int) : Nat → (Nat → Int)
  | 0 => fun _ => 0
  | n + 1 => fun i => cntF R E p n i + qF (R.map (·.1)) E p n * vf (row R n).2 i
theorem cnt_made {W : Nat} {S : List Pt} {R : List Row} {E : Nat → Nat} {y : Nat} (h : RowsOk W S R E y) (p : Nat → Int) : ∀ n, n ≤ R.length → ∀ j, (sumN S.length fun i => cntF R E p n i * pe S i j) + leftF (R.map (·.1)) E p n j = p j
  | 0, _, j => by
    have e : (sumN S.length fun i => cntF R E p 0 i * pe S i j) = 0 := sumN_zero fun i _ => Int.zero_mul _
    rw [e]
    show 0 + p j = p j
    omega
  | n + 1, hn, j => by
    have ih := cnt_made h p n (by omega) j
    have e : (sumN S.length fun i => cntF R E p (n + 1) i * pe S i j) = (sumN S.length fun i => cntF R E p n i * pe S i j) - (-qF (R.map (·.1)) E p n) * cmb S (row R n).2 j := by
      unfold cmb
      rw [← sumN_lin]
      exact sumN_congr fun i _ => by
        show (cntF R E p n i + _ * _) * _ = _
        rw [Int.neg_mul, Int.sub_neg]
    rw [e, ← h.cc n (by omega) j]
    show _ + (leftF (R.map (·.1)) E p n j - qF (R.map (·.1)) E p n * pe (R.map (·.1)) n j) = _
    have e2 : pe (R.map (·.1)) n j = vf (row R n).1 j := by unfold pe; rw [map_row (by omega)]
    rw [e2, Int.neg_mul]
    omega
theorem cnt_bd {W : Nat} {S : List Pt} {R : List Row} {E : Nat → Nat} {y x : Nat} (h : RowsOk W S R E y) {p : Nat → Int} (hp : ∀ j, (p j).natAbs < 2 ^ x) : ∀ n, n ≤ R.length → ∀ i, (cntF R E p n i).natAbs < 2 ^ (x + (n + 1) * (y + 3))
  | 0, _, i => by show (0 : Int).natAbs < _; exact Nat.two_pow_pos _
  | n + 1, hn, i => by
    have ih := cnt_bd h hp n (by omega) i
    have hL : n < (R.map (·.1)).length := by rw [List.length_map]; omega
    have lb := left_bds h.hnf hp (y := y) (fun k hk => by rw [List.length_map] at hk; rw [map_row hk]; exact h.b1 k hk) n (by omega) (E n)
    have hq := left_q (d := pe (R.map (·.1)) n (E n)) (by have := h.hnf.pos n hL; omega) lb
    have hr := vf_bd (h.b2 n (by omega)) i
    show (cntF R E p n i + qF (R.map (·.1)) E p n * vf (row R n).2 i).natAbs < _
    have m1 : (qF (R.map (·.1)) E p n * vf (row R n).2 i).natAbs ≤ 2 ^ (x + n * (y + 2) + 1) * 2 ^ y := by
      rw [Int.natAbs_mul]
      exact Nat.mul_le_mul (Nat.le_of_lt hq) (Nat.le_of_lt hr)
    rw [← Nat.pow_add] at m1
    have s1 : n * (y + 2) ≤ n * (y + 3) := Nat.mul_le_mul_left _ (by omega)
    have s2 : (n + 1) * (y + 3) = n * (y + 3) + y + 3 := by rw [Nat.succ_mul]; omega
    have s3 : (n + 1 + 1) * (y + 3) = n * (y + 3) + 2 * y + 6 := by rw [Nat.succ_mul, Nat.succ_mul]; omega
    have p1 : 2 ^ (x + n * (y + 2) + 1 + y) ≤ 2 ^ (x + n * (y + 3) + y + 3) := Nat.pow_le_pow_right (by omega) (by omega)
    have p2 : 2 * 2 ^ (x + n * (y + 3) + y + 3) ≤ 2 ^ (x + (n + 1 + 1) * (y + 3)) := by
      rw [s3, ← Nat.pow_succ']
      exact Nat.pow_le_pow_right (by omega) (by omega)
    rw [s2, show x + (n * (y + 3) + y + 3) = x + n * (y + 3) + y + 3 by omega] at ih
    omega
end SF
namespace SF
open PySem PySem.Spec PyProof.Rows L2
theorem givD_le {n r : Nat} {f : Nat → Bool} {v : Nat → PyData} (h : ∀ i, i < n → f i = decide (i < r)) (hr : r ≤ n) : givD n f v = (List.range r).map v := by
  have : ∀ m, m ≤ n → givD m f v = (List.range (min m r)).map v := fun m => by
    induction m with
    | zero => intro _; simp [givD]
    | succ m ih =>
      intro hm
      have ih := ih (by omega)
      have hf := h m (by omega)
      by_cases z : m < r
      · rw [givD_yes (by rw [hf]; simpa using z), ih, Nat.min_eq_left (by omega), Nat.min_eq_left (by omega), List.range_succ, List.map_append]
        rfl
      · rw [givD_no (by rw [hf]; simpa using z), ih, Nat.min_eq_right (by omega), Nat.min_eq_right (by omega)]
  rw [this n (Nat.le_refl _), Nat.min_eq_right hr]
theorem givD_nil {n : Nat} {f : Nat → Bool} {v : Nat → PyData} (h : ∀ i, i < n → f i = false) : givD n f v = [] := by
  rw [givD_le (r := 0) (fun i hi => by rw [h i hi]; rfl) (Nat.zero_le _)]
  rfl
theorem givD_one {n r : Nat} {f : Nat → Bool} {v : Nat → PyData} (h : ∀ i, i < n → f i = decide (i = r)) (hr : r < n) : givD n f v = [v r] := by
  have : ∀ m, m ≤ n → givD m f v = if r < m then [v r] else [] := fun m => by
    induction m with
    | zero => intro _; rw [if_neg (by omega)]; rfl
    | succ m ih =>
      intro hm
      have ih := ih (by omega)
      have hf := h m (by omega)
      by_cases z : m = r
      · rw [givD_yes (by rw [hf]; simpa using z), ih, if_neg (by omega), if_pos (by omega), z]; rfl
      · rw [givD_no (by rw [hf]; simpa using z), ih]
        by_cases q : r < m
        · rw [if_pos q, if_pos (by omega)]
        · rw [if_neg q, if_neg (by omega)]
  rw [this n (Nat.le_refl _), if_pos hr]
theorem eqv_nat (a b : Nat) : PyData.eqv (.int (a : Int)) (.int (b : Int)) = decide (a = b) := by
  rw [Bool.eq_iff_iff, decide_eq_true_eq]
  show ((a : Int) == (b : Int)) = true ↔ _
  rw [beq_iff_eq]
  omega
theorem sum_range (n : Nat) (f : Nat → Int) : ((List.range n).map f).sum = sumN n f := by
  induction n with
  | zero => rfl
  | succ n ih =>
    rw [List.range_succ, List.map_append, List.sum_append, ih]
    show sumN n f + (f n + 0) = sumN n f + f n
    omega
section
variable {K : PySem.W.Frag} {σ : L2.St} {H : Hp} {D : Ends} {tu : TS}
variable (K) in
theorem s_forDown {ta : TA} {j : Nat} {n : Nat} {lo : Int} (h : EvDs K ta σ H [.int lo, .int (-1), .int (-1)]) (hlo : lo = (n : Int) - 1) (hn : n ≤ 100000) (Pv : Nat → L2.St → Hp → Prop) (h0 : ∀ H1, Ex H H1 → Pv 0 σ H1)
    (hs : ∀ (i : Nat) σ' H', i < n → Pv i σ' H' → tu { D with nx := Pv (i + 1), ct := Pv (i + 1), bk := D.nx } (σ'.set j (some (.int ((n - 1 - i : Nat) : Int)))) H') (hd : ∀ σ' H', Pv n σ' H' → D.nx σ' H') : tFor (iRng3 ta) (gName j) tu D σ H :=
  h H ex_refl _ fun vs H1 e hv => by
    obtain ⟨a, b, c, rfl, ha, hb, hc⟩ := dd3 hv
    obtain rfl := dp_int ha
    obtain rfl := dp_int hb
    obtain rfl := dp_int hc
    subst hlo
    refine ⟨(n : Int) - 1, -1, -1, n, rfl, ?_, ?_⟩
    · have := RgC.neg (i := (n : Int) - 1) (j := -1) (by omega) (by omega) (by omega) (by omega)
      rwa [show (((n : Int) - 1) - -1).toNat = n by omega] at this
    · refine ⟨fun i m σ H => m = n - i ∧ i ≤ n ∧ Pv i σ H, ⟨n, by simp, Nat.zero_le _, h0 H1 e⟩, ?_⟩
      rintro i m σ H ⟨rfl, hi, p⟩
      by_cases hlt : i < n
      · refine .inr ⟨hlt, Pv (i + 1), fun σ' H' p' => ⟨n - (i + 1), by omega, rfl, hlt, p'⟩, fun x H' y => ?_⟩
        obtain ⟨rfl, rfl⟩ := y
        have e2 : (n : Int) - 1 + (i : Nat) * -1 = ((n - 1 - i : Nat) : Int) := by omega
        rw [e2]
        exact hs i σ _ hlt p
      · have e : i = n := by omega
        subst e
        exact .inl ⟨Nat.le_refl _, hd σ H p⟩
variable (K) in
theorem s_for3 {ta : TA} {j : Nat} {n : Nat} {lo hi c : Int} (h : EvDs K ta σ H [.int lo, .int hi, .int c]) (hr : RgC lo hi c n) (Pv : Nat → L2.St → Hp → Prop) (h0 : ∀ H1, Ex H H1 → Pv 0 σ H1)
    (hs : ∀ (i : Nat) σ' H', i < n → Pv i σ' H' → tu { D with nx := Pv (i + 1), ct := Pv (i + 1), bk := D.nx } (σ'.set j (some (.int (lo + (i : Int) * c)))) H') (hd : ∀ σ' H', Pv n σ' H' → D.nx σ' H') : tFor (iRng3 ta) (gName j) tu D σ H :=
  h H ex_refl _ fun vs H1 e hv => by
    obtain ⟨a, b, c', rfl, ha, hb, hc⟩ := dd3 hv
    obtain rfl := dp_int ha
    obtain rfl := dp_int hb
    obtain rfl := dp_int hc
    refine ⟨_, _, _, n, rfl, hr, ?_⟩
    refine ⟨fun i m σ H => m = n - i ∧ i ≤ n ∧ Pv i σ H, ⟨n, by simp, Nat.zero_le _, h0 H1 e⟩, ?_⟩
    rintro i m σ H ⟨rfl, hi, p⟩
    by_cases hlt : i < n
    · refine .inr ⟨hlt, Pv (i + 1), fun σ' H' p' => ⟨n - (i + 1), by omega, rfl, hlt, p'⟩, fun x H' y => ?_⟩
      obtain ⟨rfl, rfl⟩ := y
      exact hs i σ _ hlt p
    · have e : i = n := by omega
      subst e
      exact .inl ⟨Nat.le_refl _, hd σ H p⟩
end
def RDot (ds : List PyData) (d : PyData) : Prop := ∃ (k1 k2 : Bool) (p q : Pt) (a b : Nat), ds = [seqD k1 (p.map .int), seqD k2 (q.map .int)] ∧ d = .int (wdot p.length (vf p) (vf q)) ∧ p.length = q.length ∧ p.length ≤ 1000 ∧ Bd a p ∧ Bd b q ∧ a + b < 100000000
def wtsP (L : List Pt) (E : Nat → Nat) (W c r i : Nat) : Pt := (List.range W).map (wtsN L E W c r i).1
theorem wtsP_len (L : List Pt) (E : Nat → Nat) (W c r i : Nat) : (wtsP L E W c r i).length = W := by simp [wtsP]
theorem wtsP_vf {L : List Pt} {E : Nat → Nat} {W c r i j : Nat} (hj : j < W) : vf (wtsP L E W c r i) j = (wtsN L E W c r i).1 j := by
  unfold wtsP vf
  simp [List.getD_eq_getElem?_getD, hj]
theorem wdot_wts {L : List Pt} {E : Nat → Nat} {W c r i : Nat} (q : Nat → Int) : wdot W (vf (wtsP L E W c r i)) q = wdot W (wtsN L E W c r i).1 q := sumN_congr fun j hj => by rw [wtsP_vf hj]
def RWts (ds : List PyData) (d : PyData) : Prop := ∃ (W c r y : Nat) (L : List Pt) (E : Nat → Nat) (h : Hnf W L E), ds = [.list ((L.take r).map ptD), .list ((List.range r).map fun k => .int (E k : Int)), .int (c : Int), .int (W : Int)] ∧
  d = .tuple [ptD (wtsP L E W c r r), .int (wtsN L E W c r r).2] ∧ Upto h c r ∧ c < W ∧ W ≤ 100 ∧ (∀ i, i < L.length → Bd y (L.getD i [])) ∧ (W + 2) * (y + 8) < 100000000
def ROutside (ds : List PyData) (d : PyData) : Prop := ∃ (k : Bool) (W c r y x : Nat) (L : List Pt) (E : Nat → Nat) (h : Hnf W L E) (p : Pt), ds = [.list (L.map ptD), .int (W : Int), .int (c : Int), seqD k (p.map .int)] ∧
  d = .tuple [.str "no", ptD (wtsP L E W c r r), .int (if r < L.length ∧ E r = c then (wtsN L E W c r r).2 * pe L r c else ((wdot W (wtsN L E W c r r).1 (vf p)).natAbs + 1 : Nat))] ∧ Upto h c r ∧ c < W ∧ W ≤ 100 ∧ p.length = W ∧ Bd x p ∧ (∀ i, i < L.length → Bd y (L.getD i [])) ∧ x + (W + 2) * (y + 8) < 100000000
def ShY (W : Nat) (S : List Pt) (p : Pt) (B : Nat) (cs : List Int) : Prop := Lat S.length (pe S) (vf p) ∧ cs.length = S.length ∧ (∀ j, cmb S cs j = vf p j) ∧ Bd B cs
def ShN (W : Nat) (S : List Pt) (p : Pt) (B : Nat) (w : Pt) (m : Int) : Prop := w.length = W ∧ Out W S (vf p) (vf w) m ∧ Bd B w
def ShD (W : Nat) (S : List Pt) (p : Pt) (B : Nat) (d : PyData) : Prop := (∃ cs, d = .tuple [.str "yes", plD cs] ∧ ShY W S p B cs) ∨ ∃ w m, d = .tuple [.str "no", ptD w, .int m] ∧ ShN W S p B w m
structure ReachOk (W b : Nat) (S : List Pt) (p : Pt) (x : Nat) : Prop where
  good : Good W b S
  len : p.length = W
  bp : Bd x p
  bit : x + (W + 3) * (ys b W + 10) < 100000000
def spReach (C : Addr) (K : PySem.W.Frag) : Sp := fun vs H Q _ => ∃ a u W b S p x k, vs = [.ref a, u] ∧ FieldAt C K H a W S ∧ Dd K H u (seqD k (p.map .int)) ∧ ReachOk W b S p x ∧
  (∀ t l cs H2, Ex H H2 → H l = none → ZT H2 t [.str "yes", .ref l] → H2 l = some (.lst (cs.map V.int)) → ShY W S p (x + (W + 2) * (ys b W + 4)) cs → Q (.ref t) H2) ∧
  (∀ v w m H2, Ex H H2 → Dd K H2 v (.tuple [.str "no", ptD w, .int m]) → ShN W S p ((W + 2) * (ys b W + 9)) w m → Q v H2)
def RShown (ds : List PyData) (d : PyData) : Prop := ∃ (k : Bool) (W b x B : Nat) (S : List Pt) (p : Pt) (f : PyData), ds = [f, .int (W : Int), .list (S.map ptD), seqD k (p.map .int)] ∧ d = .bool true ∧ ShD W S p B f ∧ StepsOk W b S ∧ p.length = W ∧ Bd x p ∧ W ≤ 100 ∧ S.length ≤ 1000 ∧ B + b < 100000000 ∧ B + x < 100000000
section
variable {K : PySem.W.Frag} {σ : L2.St} {H : Hp} {C : Addr} {E : XK} {tf tp : TE} {W b x : Nat} {S : List Pt} {p : Pt}
theorem er_reach {k : Bool} (h1 : EvFd C K tf σ H W S) (h2 : EvD K tp σ H (seqD k (p.map .int))) (ok : ReachOk W b S p x) : EvR (tCall (spReach C K) [] E (tCons tf (tCons tp tNil))) σ H (fun v H2 => Ex H H2 ∧ ∃ d, Dd K H2 v d ∧ ShD W S p (x + (W + 2) * (ys b W + 10)) d) := fun Q q =>
  h1 H ex_refl _ fun a H1 e1 hF => h2 H1 e1 _ fun u H2 e2 hu => by
    refine ⟨a, u, W, b, S, p, x, k, by simp, hF.up e2, hu, ok, fun t l cs H3 e3 hl ht hl2 hc => ?_, fun v w m H3 e3 hd hw => ?_⟩
    · have le : x + (W + 2) * (ys b W + 4) ≤ x + (W + 2) * (ys b W + 10) := Nat.add_le_add_left (Nat.mul_le_mul_left _ (by omega)) _
      exact q _ H3 ⟨ex_tr e1 (ex_tr e2 e3), _, .tup ht (.cons (.str _) (.cons (.lst (SqL.of hl2) (DdAll.ints cs)) .nil)), .inl ⟨cs, rfl, hc.1, hc.2.1, hc.2.2.1, hc.2.2.2.up le⟩⟩
    · have le : (W + 2) * (ys b W + 9) ≤ x + (W + 2) * (ys b W + 10) := by
        have : (W + 2) * (ys b W + 9) ≤ (W + 2) * (ys b W + 10) := Nat.mul_le_mul_left _ (by omega)
        omega
      exact q _ H3 ⟨ex_tr e1 (ex_tr e2 e3), _, hd, .inr ⟨w, m, rfl, hw.1, hw.2.1, hw.2.2.up le⟩⟩
theorem er_reachY {k : Bool} (h1 : EvFd C K tf σ H W S) (h2 : EvD K tp σ H (seqD k (p.map .int))) (ok : ReachOk W b S p x) (hin : Lat S.length (pe S) (vf p)) : EvR (tCall (spReach C K) [] E (tCons tf (tCons tp tNil))) σ H (fun v H2 => Ex H H2 ∧ ∃ t l cs, v = .ref t ∧ H l = none ∧ ZT H2 t [.str "yes", .ref l] ∧ H2 l = some (.lst (cs.map V.int)) ∧ ShY W S p (x + (W + 2) * (ys b W + 10)) cs) := fun Q q =>
  h1 H ex_refl _ fun a H1 e1 hF => h2 H1 e1 _ fun u H2 e2 hu => by
    refine ⟨a, u, W, b, S, p, x, k, by simp, hF.up e2, hu, ok, fun t l cs H3 e3 hl ht hl2 hc => ?_, fun v w m H3 e3 hd hw => absurd hin hw.2.1.not⟩
    have le : x + (W + 2) * (ys b W + 4) ≤ x + (W + 2) * (ys b W + 10) := Nat.add_le_add_left (Nat.mul_le_mul_left _ (by omega)) _
    exact q _ H3 ⟨ex_tr e1 (ex_tr e2 e3), t, l, cs, rfl, ex_back (ex_tr e1 e2) hl, ht, hl2, hc.1, hc.2.1, hc.2.2.1, hc.2.2.2.up le⟩
end
section
variable {K : PySem.W.Frag} {σ : L2.St} {H : Hp}
theorem er_yes {i : Nat} {v : V} {cs : Pt} {Q : VK} (hv : σ[i]? = some (some v)) (hd : Dd K H v (ptD cs)) (q : ∀ t l H2, Ex H H2 → H l = none → ZT H2 t [.str "yes", .ref l] → H2 l = some (.lst (cs.map V.int)) → Q (.ref t) H2) :
    tTupZ (tCons (tC (.str "yes")) (tCons (tCB (rListOf K) (tCons (tVar i) tNil)) tNil)) σ H Q := by
  obtain ⟨a, xs, rfl, hs, ha⟩ := dp_tup hd
  rw [dp_ints ha] at hs
  refine ⟨_, hv, a, _, rfl, .inr hs.sq, fun l hl => ?_⟩
  refine ⟨Evl.sz_of (by simp), fun t o ht ho => ?_⟩
  exact q t l _ (ex_tr (ex_new hl) (ex_new ht)) hl ⟨o, upd_same, ho⟩ ((ex_new ht) l _ upd_same)
theorem ev_lenS {te : TE} {k : Bool} {ds : List PyData} (h : EvD K te σ H (seqD k ds)) : EvD K (tCB (rLen K) (tCons te tNil)) σ H (.int (ds.length : Nat)) := by
  cases k with
  | true => exact ev_cb (ea_cons h ea_nil) rc_lenL'
  | false => exact ev_cb (ea_cons h ea_nil) rc_lenT'
theorem ev_tupS {te : TE} {k : Bool} {ds : List PyData} (h : EvD K te σ H (seqD k ds)) : EvD K (tCB (rTupleOf K) (tCons te tNil)) σ H (.tuple ds) := by
  cases k with
  | true => exact ev_cb (ea_cons h ea_nil) rc_tupleL
  | false => exact ev_cb (ea_cons h ea_nil) rc_tupleT
theorem ef_listS {te : TE} {k : Bool} {ds : List PyData} (h : EvD K te σ H (seqD k ds)) : EvF K (tCB (rListOf K) (tCons te tNil)) σ H ds := by
  cases k with
  | true => exact ef_cb (ea_cons h ea_nil) rc_listL
  | false => exact ef_cb (ea_cons h ea_nil) rc_listT
end
def cntP (n : Nat) (R : List Row) (E : Nat → Nat) (p : Nat → Int) (r : Nat) : Pt := (List.range n).map (cntF R E p r)
theorem cntP_len (n : Nat) (R : List Row) (E : Nat → Nat) (p : Nat → Int) (r : Nat) : (cntP n R E p r).length = n := by simp [cntP]
theorem cntP_vf {n : Nat} {R : List Row} {E : Nat → Nat} {p : Nat → Int} {r j : Nat} (hj : j < n) : vf (cntP n R E p r) j = cntF R E p r j := by
  unfold cntP vf
  simp [List.getD_eq_getElem?_getD, hj]
theorem Out.vf {W : Nat} {S : List Pt} {p : Nat → Int} {m : Int} {L : List Pt} {E : Nat → Nat} {c r i : Nat} (h : Out W S p (wtsN L E W c r i).1 m) : Out W S p (vf (wtsP L E W c r i)) m :=
  ⟨h.1, fun k hk => by rw [wdot_wts]; exact h.2.1 k hk, by rw [wdot_wts]; exact h.2.2⟩
end SF
namespace SF
open PySem PySem.Spec PyProof.Rows L2
theorem ex_mut1 {s : Addr} {H0 H H' : Hp} (a : Ex H0 H) (n : H0 s = none) (b : Ex1 s H H') : Ex H0 H' := fun c o h => b c o (a c o h) (by rintro rfl; rw [n] at h; cases h)
section
variable {K : PySem.W.Frag} {σ : L2.St} {H : Hp} {te : TE}
def DrawE (K : PySem.W.Frag) (te : TE) (x : V) (ns : List Int) (sp : Addr) (Pz : Int → Prop) (σ' : L2.St) (H0 : Hp) : Prop := ∀ H' p, Ex1 sp H0 H' → Scr K H' x ns → H' sp = some (.lst [.int ((p : Nat) : Int)]) → EvR te σ' H' (fun v H'' => ∃ z p', v = .int z ∧ Pz z ∧ Ex1 sp H' H'' ∧ H'' sp = some (.lst [.int ((p' : Nat) : Int)]))
def Drawn (K : PySem.W.Frag) (sp : Addr) (H : Hp) (n : Nat) (Pz : Int → Prop) (v : V) (H' : Hp) : Prop := ∃ (Da : Addr) (cs : List Int) (p' : Nat), v = .ref Da ∧ H Da = none ∧ Ex1 sp H H' ∧ H' sp = some (.lst [.int ((p' : Nat) : Int)]) ∧ H' Da = some (.lst (cs.map V.int)) ∧ cs.length = n ∧ ∀ z ∈ cs, Pz z
theorem draw_step {x : V} {ns : List Int} {sp Da : Addr} {Pz : Int → Prop} {σ' : L2.St} {H' : Hp} {i n : Nat} (hx : Scr K H x ns) {xs0 : List V} (hs : H sp = some (.lst xs0)) (hi : i < n) (hn : n ≤ 50000) (hd : DrawE K te x ns sp Pz σ' H) (hP : H Da = none ∧ Ex1 sp H H' ∧ (∃ p' : Nat, H' sp = some (.lst [.int (p' : Int)])) ∧ ∃ cs : List Int, H' Da = some (.lst (cs.map V.int)) ∧ cs.length = i ∧ ∀ z ∈ cs, Pz z) :
    te σ' H' fun y H4 => ∃ acc, H4 Da = some (.lst acc) ∧ acc.length < sizeLine ∧ (H Da = none ∧ Ex1 sp H (upd H4 Da (.lst (acc ++ [y]))) ∧ (∃ p' : Nat, (upd H4 Da (.lst (acc ++ [y]))) sp = some (.lst [.int (p' : Int)])) ∧ ∃ cs : List Int, (upd H4 Da (.lst (acc ++ [y]))) Da = some (.lst (cs.map V.int)) ∧ cs.length = i + 1 ∧ ∀ z ∈ cs, Pz z) := by
  obtain ⟨q1, q2, ⟨p5, q3⟩, cs, q4, q5, q6⟩ := hP
  have nDs : Da ≠ sp := by rintro rfl; rw [hs] at q1; cases q1
  refine hd H' p5 q2 (hx.up1 q2 hs) q3 _ ?_
  rintro v H6 ⟨z, p6, rfl, hz, e6, g6⟩
  refine ⟨cs.map V.int, e6 Da _ q4 nDs, Evl.sz_lt (by rw [List.length_map]; omega), q1, ?_, ⟨p6, ?_⟩, cs ++ [z], ?_, by simp [q5], ?_⟩
  · exact ex1_mut (ex1_tr q2 e6) q1 ex1_upd
  · rw [upd_ne nDs.symm]
    exact g6
  · rw [upd_same]; simp
  · intro y hy
    rcases List.mem_append.mp hy with hy | hy
    · exact q6 y hy
    · obtain rfl := List.mem_singleton.mp hy
      exact hz
theorem er_drawR {x : V} {ns : List Int} {sp : Addr} {p j : Nat} {Pz : Int → Prop} {t : TA} {n : Nat} (hx : Scr K H x ns) (hs : H sp = some (.lst [.int (p : Int)])) (h : EvDs K t σ H [.int (n : Int)]) (hn : n ≤ 50000) (hw : ∀ x, wipe ((wipe σ [j]).set j (some x)) [j] = wipe σ [j])
    (hd : ∀ i : Nat, DrawE K te x ns sp Pz ((wipe σ [j]).set j (some (.int (i : Int)))) H) : EvR (tLc (iRng1 t) (gName j) tYes te [j]) σ H (Drawn K sp H n Pz) := fun Q q =>
  er_lcR h (by omega) (by omega) hw (fun Da i H' => H Da = none ∧ Ex1 sp H H' ∧ (∃ p' : Nat, H' sp = some (.lst [.int (p' : Int)])) ∧ ∃ cs : List Int, H' Da = some (.lst (cs.map V.int)) ∧ cs.length = i ∧ ∀ z ∈ cs, Pz z)
    (fun H5 Da e5 hDa => ⟨ex_back e5 hDa, ex1_of (ex_tr e5 (ex_new hDa)), ⟨p, (ex_new hDa) sp _ (e5 sp _ hs)⟩, [], upd_same, rfl, fun z hz => by cases hz⟩)
    (fun Da i H5 hi hP => draw_step (n := n) hx hs (by omega) hn (hd i) hP) Q (fun v H' hv => by
      obtain ⟨Da, rfl, q1, q2, ⟨p', q3⟩, cs, q4, q5, q6⟩ := hv
      exact q _ H' ⟨Da, cs, p', rfl, q1, q2, q3, q4, by rw [q5]; omega, q6⟩)
theorem er_drawL {x : V} {ns : List Int} {sp l : Addr} {xs : List V} {p j i : Nat} {Pz : Int → Prop} (hx : Scr K H x ns) (hs : H sp = some (.lst [.int (p : Int)])) (h : σ[i]? = some (some (.ref l))) (hl : H l = some (.lst xs)) (hls : l ≠ sp) (hn : xs.length ≤ 50000) (hw : ∀ x, wipe ((wipe σ [j]).set j (some x)) [j] = wipe σ [j])
    (hd : ∀ y : V, DrawE K te x ns sp Pz ((wipe σ [j]).set j (some y)) H) : EvR (tLc (iLT K (tVar i)) (gName j) tYes te [j]) σ H (Drawn K sp H xs.length Pz) := fun Q q => by
  refine ⟨_, h, l, rfl, .inl ⟨⟨xs, SqL.of hl⟩, fun Da hD => ?_⟩⟩
  have nl : Da ≠ l := by rintro rfl; rw [hl] at hD; cases hD
  refine lc_list (xs := xs) (fun i H' => (H Da = none ∧ Ex1 sp H H' ∧ (∃ p' : Nat, H' sp = some (.lst [.int (p' : Int)])) ∧ ∃ cs : List Int, H' Da = some (.lst (cs.map V.int)) ∧ cs.length = i ∧ ∀ z ∈ cs, Pz z)) ⟨hD, ex1_of (ex_new hD), ⟨p, (ex_new hD) sp _ hs⟩, [], upd_same, rfl, fun z hz => by cases hz⟩
    (fun k H' _ hP => SqL.of (hP.2.1 l _ hl hls)) (fun k y H' hy hP => ?_) (fun H' hP => ?_)
  · refine ⟨hw y, ?_⟩
    have hk := (List.getElem?_eq_some_iff.mp hy).1
    exact draw_step (n := xs.length) hx hs hk hn (hd y) hP
  · obtain ⟨q1, q2, ⟨p', q3⟩, cs, q4, q5, q6⟩ := hP
    exact q _ H' ⟨Da, cs, p', rfl, q1, q2, q3, q4, q5, q6⟩
theorem draw_next {x : V} {ns : List Int} {sp : Addr} {ix isp : Nat} {E : XK} {σ' : L2.St} (hn : ns.length ≤ 1000) (h1 : σ'[ix]? = some (some x)) (h2 : σ'[isp]? = some (some (.ref sp))) {Q : VK} {H' : Hp} {p : Nat} (hx : Scr K H' x ns) (hs : H' sp = some (.lst [.int (p : Int)]))
    (q : ∀ H'', Ex1 sp H' H'' → H'' sp = some (.lst [.int ((p + 1 : Nat) : Int)]) → Q (.int (vf ns p)) H'') : tCall (spNext K) [] E (tCons (tVar ix) (tCons (tVar isp) tNil)) σ' H' Q := er_next hx hn hs h1 h2 Q fun v H'' hv => by
  obtain ⟨rfl, e, g⟩ := hv
  exact q H'' e g
theorem draw_mod {x : V} {ns : List Int} {sp : Addr} {ix isp : Nat} {E : XK} {σ' : L2.St} {H0 : Hp} {m c : Int} (hn : ns.length ≤ 1000) (hm : 0 < m) (h1 : σ'[ix]? = some (some x)) (h2 : σ'[isp]? = some (some (.ref sp))) :
    DrawE K (tOp (rI0 fun i j => .int (i - j)) (tOp (rI (fun _ j => j ≠ 0) fun i j => .int (i.fmod j)) (tCall (spNext K) [] E (tCons (tVar ix) (tCons (tVar isp) tNil))) (tC (.int m))) (tC (.int c))) x ns sp (fun z => -c ≤ z ∧ z < m - c) σ' H0 := fun H' p e hx hs Q q =>
  draw_next hn h1 h2 hx hs fun H'' e2 g => by
    refine ⟨_, _, rfl, rfl, by omega, ?_⟩
    refine ⟨_, _, rfl, rfl, ?_⟩
    have hf := fmod_pos (a := vf ns p) (b := m) hm
    exact q _ H'' ⟨_, p + 1, rfl, ⟨by omega, by omega⟩, e2, g⟩
end
section
variable {K : PySem.W.Frag} {σ : L2.St} {H : Hp} {C : Addr} {E E' : XK} {tf tp tw ts tq : TE} {W b x : Nat} {S : List Pt} {p : Pt}
theorem ev_shownR {k k' : Bool} (h1 : EvFd C K tf σ H W S) (h2 : EvD K tp σ H (seqD k (p.map .int))) (ok : ReachOk W b S p x) (hr : EvDs K (tCons tw (tCons ts (tCons tq tNil))) σ H [.int (W : Int), .list (S.map ptD), seqD k' (p.map .int)])
    (hb1 : x + (W + 2) * (ys b W + 10) + b < 100000000) (hb2 : x + (W + 2) * (ys b W + 10) + x < 100000000) :
    EvD K (tCall (spD K RShown) [] E (tCons (tCall (spReach C K) [] E' (tCons tf (tCons tp tNil))) (tCons tw (tCons ts (tCons tq tNil))))) σ H (.bool true) := fun H1 e Q q => by
  refine er_reach (fun H2 e2 => h1 H2 (ex_tr e e2)) (fun H2 e2 => h2 H2 (ex_tr e e2)) ok _ ?_
  rintro v H2 ⟨e2, d, hd, hs⟩
  refine hr H2 (ex_tr e e2) _ fun vs H3 e3 hv => ?_
  refine ⟨_, _, by rw [List.append_nil]; exact .cons (hd.up e3) hv, ⟨k', W, b, x, _, S, p, d, rfl, rfl, hs, ok.good.ok, ok.len, ok.bp, ok.good.w, by have := ok.good.n; omega, hb1, hb2⟩, fun w H4 e4 hw => ?_⟩
  exact q w H4 (ex_tr e2 (ex_tr e3 e4)) hw
end
theorem reach4 {W : Nat} {S : List Pt} {p : Pt} {x : Nat} (hg : Good W 50 S) (hW : W ≤ 4) (hp : p.length = W) (hb : Bd x p) (hx : x ≤ 1000000) : ReachOk W 50 S p x := ⟨hg, hp, hb, by
  have := ys4 hW
  have : (W + 3) * (ys 50 W + 10) ≤ 7 * (ys 50 W + 10) := Nat.mul_le_mul_right _ (by omega)
  omega⟩
theorem reach4b {W x : Nat} (hW : W ≤ 4) (hx : x ≤ 1000000) : x + (W + 2) * (ys 50 W + 10) + 50 < 100000000 ∧ x + (W + 2) * (ys 50 W + 10) + x < 100000000 := by
  have := ys4 hW
  have : (W + 2) * (ys 50 W + 10) ≤ 6 * (ys 50 W + 10) := Nat.mul_le_mul_right _ (by omega)
  omega
theorem shown_lit {d : PyData} : SeqAt.shaped (.str "yes") = true := by decide +kernel
theorem made_bd50 {W most : Nat} {great : Bool} {S : List Pt} {cs : List Int} (h : LSteps W most great S) (hm : most ≤ 6) {A : Nat} (hA : A ≤ 2 ^ 20) (hc : ∀ z ∈ cs, z.natAbs ≤ A) : Bd 80 (madeP W S cs) := madeP_bd fun j _ => by
  have hS := h.ok (b := 50) (fun _ => by omega) (fun _ => by omega)
  have c : ∀ i, (vf cs i).natAbs ≤ A := fun i => by
    by_cases z : i < cs.length
    · exact hc _ (List.mem_of_getElem? (get_vf z))
    · rw [vf_beyond (by omega)]; exact Nat.zero_le _
  have := cmb_bd (S := S) (cs := cs) (A := A) (B := 2 ^ 50) (fun i _ => c i) (fun i hi j => Nat.le_of_lt (vf_bd (hS.bd i hi) j)) j
  have hn := h.n
  have h2 : S.length * (A * 2 ^ 50) ≤ 6 * (2 ^ 20 * 2 ^ 50) := Nat.mul_le_mul (by omega) (Nat.mul_le_mul_right _ hA)
  have h3 : 6 * (2 ^ 20 * 2 ^ 50) < 2 ^ 80 := by decide
  omega
end SF
namespace SF
open PySem PySem.Spec PyProof.Rows L2
theorem lat_app {S T : List Pt} {f : Nat → Int} : Lat (S ++ T).length (pe (S ++ T)) f ↔ ∃ a b, Lat S.length (pe S) a ∧ Lat T.length (pe T) b ∧ ∀ j, f j = a j + b j := by
  have e1 : ∀ k, k < S.length → pe (S ++ T) k = pe S k := fun k hk => by
    funext j; unfold pe
    rw [List.getD_eq_getElem?_getD, List.getElem?_append_left hk, ← List.getD_eq_getElem?_getD]
  have e2 : ∀ k, S.length ≤ k → pe (S ++ T) k = pe T (k - S.length) := fun k hk => by
    funext j; unfold pe
    rw [List.getD_eq_getElem?_getD, List.getElem?_append_right hk, ← List.getD_eq_getElem?_getD]
  constructor
  · intro h
    induction h with
    | zero => exact ⟨_, _, .zero, .zero, fun j => rfl⟩
    | @add f k c hk hf ih =>
      obtain ⟨a, b, ha, hb, he⟩ := ih
      rw [List.length_append] at hk
      by_cases z : k < S.length
      · refine ⟨_, b, ha.add k c z, hb, fun j => ?_⟩
        show f j + c * pe (S ++ T) k j = a j + c * pe S k j + b j
        rw [e1 k z, he j]; omega
      · refine ⟨a, _, ha, hb.add (k - S.length) c (by omega), fun j => ?_⟩
        show f j + c * pe (S ++ T) k j = a j + (b j + c * pe T (k - S.length) j)
        rw [e2 k (by omega), he j]; omega
  · rintro ⟨a, b, ha, hb, he⟩
    have h1 : Lat (S ++ T).length (pe (S ++ T)) a := Lat.sub (fun k hk => (Lat.mem (g := pe (S ++ T)) (k := k) (by rw [List.length_append]; omega)).of fun j => by rw [e1 k hk]) ha
    have h2 : Lat (S ++ T).length (pe (S ++ T)) b := Lat.sub (fun k hk => (Lat.mem (g := pe (S ++ T)) (k := S.length + k) (by rw [List.length_append]; omega)).of fun j => by rw [e2 _ (by omega), show S.length + k - S.length = k by omega]) hb
    exact (h1.plus h2).of fun j => (he j).symm
def cat (W : Nat) (a b : Nat → Int) : Nat → Int := fun j => if j < W then a j else b (j - W)
def zipped (W : Nat) (S T : List Pt) : List Pt := (S.map fun p => p ++ p) ++ T.map fun p => p ++ List.replicate W 0
theorem vf_cat {W : Nat} {p q : Pt} (hp : p.length = W) : vf (p ++ q) = cat W (vf p) (vf q) := by
  funext j
  unfold cat vf
  rw [List.getD_eq_getElem?_getD]
  by_cases z : j < W
  · rw [if_pos z, List.getElem?_append_left (by omega), List.getD_eq_getElem?_getD]
  · rw [if_neg z, List.getElem?_append_right (by omega), List.getD_eq_getElem?_getD, hp]
theorem vf_nought (W j : Nat) : vf (List.replicate W 0) j = 0 := by
  unfold vf
  rw [List.getD_eq_getElem?_getD, List.getElem?_replicate]
  split <;> rfl
theorem lat_map {S : List Pt} {g : Pt → Pt} {G : (Nat → Int) → Nat → Int} (hg : ∀ p ∈ S, vf (g p) = G (vf p)) (h0 : G (fun _ => 0) = fun _ => 0) (hl : ∀ a b c, G (fun j => a j + c * b j) = fun j => G a j + c * G b j) {f : Nat → Int} :
    Lat (S.map g).length (pe (S.map g)) f ↔ ∃ a, Lat S.length (pe S) a ∧ f = G a := by
  have e : ∀ k, k < S.length → pe (S.map g) k = G (pe S k) := fun k hk => by
    have : S.getD k [] = S[k] := by rw [List.getD_eq_getElem?_getD, List.getElem?_eq_getElem hk]; rfl
    have h1 : pe (S.map g) k = vf (g S[k]) := by
      funext j; unfold pe
      rw [List.getD_eq_getElem?_getD, List.getElem?_map, List.getElem?_eq_getElem hk]; rfl
    have h2 : pe S k = vf S[k] := by funext j; unfold pe; rw [this]
    rw [h1, h2, hg _ (List.getElem_mem hk)]
  constructor
  · intro h
    induction h with
    | zero => exact ⟨_, .zero, h0.symm⟩
    | @add f k c hk hf ih =>
      obtain ⟨a, ha, rfl⟩ := ih
      rw [List.length_map] at hk
      refine ⟨_, ha.add k c hk, ?_⟩
      rw [hl a (pe S k) c, e k hk]
  · rintro ⟨a, ha, rfl⟩
    induction ha with
    | zero => rw [h0]; exact .zero
    | @add f k c hk hf ih =>
      rw [hl]
      exact (ih.add k c (by rw [List.length_map]; exact hk)).of fun j => by rw [e k hk]
theorem lat_zipped {W : Nat} {S T : List Pt} (hS : ∀ p ∈ S, p.length = W) (hT : ∀ p ∈ T, p.length = W) {f : Nat → Int} : Lat (zipped W S T).length (pe (zipped W S T)) f ↔ ∃ a b, Lat S.length (pe S) a ∧ Lat T.length (pe T) b ∧ ∀ j, f j = cat W (fun j => a j + b j) a j := by
  have l1 : ∀ {g : Nat → Int}, _ ↔ _ := fun {g} => lat_map (S := S) (g := fun p => p ++ p) (G := fun a => cat W a a) (fun p hp => vf_cat (hS p hp)) (by funext j; simp [cat]) (fun a b c => by funext j; unfold cat; split <;> rfl) (f := g)
  have l2 : ∀ {g : Nat → Int}, _ ↔ _ := fun {g} => lat_map (S := T) (g := fun p => p ++ List.replicate W 0) (G := fun a => cat W a fun _ => 0) (fun p hp => by rw [vf_cat (hT p hp)]; congr 1; funext j; exact vf_nought W j) (by funext j; simp [cat]) (fun a b c => by funext j; unfold cat; split <;> simp) (f := g)
  unfold zipped
  rw [lat_app]
  constructor
  · rintro ⟨x, y, hx, hy, he⟩
    obtain ⟨a, ha, rfl⟩ := l1.mp hx
    obtain ⟨b, hb, rfl⟩ := l2.mp hy
    refine ⟨a, b, ha, hb, fun j => ?_⟩
    rw [he j]
    unfold cat
    split
    · rfl
    · exact Int.add_zero _
  · rintro ⟨a, b, ha, hb, he⟩
    refine ⟨_, _, l1.mpr ⟨a, ha, rfl⟩, l2.mpr ⟨b, hb, rfl⟩, fun j => ?_⟩
    rw [he j]
    unfold cat
    split
    · rfl
    · exact (Int.add_zero _).symm
theorem upto_ex {W : Nat} {L : List Pt} {E : Nat → Nat} (h : Hnf W L E) : ∀ c, ∃ r, Upto h c r
  | 0 => ⟨0, .zero h⟩
  | c + 1 => by
    obtain ⟨r, u⟩ := upto_ex h c
    by_cases z : r < L.length ∧ E r = c
    · exact ⟨r + 1, u.next z.1 z.2⟩
    · exact ⟨r, u.skip fun k hk e => z (by have := u.here hk e; rw [this] at hk e; exact ⟨hk, e⟩)⟩
def commonP (W : Nat) (S T : List Pt) : List Pt := ((stairP (2 * W) (zipped W S T)).filter fun p => decide (p.take W = List.replicate W 0)).map fun p => p.drop W
theorem filter_drop {W : Nat} {L : List Pt} {E : Nat → Nat} {h : Hnf (2 * W) L E} {r : Nat} (u : Upto h W r) : (L.filter fun p => decide (p.take W = List.replicate W 0)) = L.drop r := by
  have hit : ∀ i (hi : i < L.length), decide (L[i].take W = List.replicate W 0) = decide (r ≤ i) := fun i hi => by
    have eg : L.getD i [] = L[i] := by rw [List.getD_eq_getElem?_getD, List.getElem?_eq_getElem hi]; rfl
    have hl := h.len i hi
    rw [eg] at hl
    rw [decide_eq_decide]
    have hu := u.iff i hi
    constructor
    · intro z
      rcases Nat.lt_or_ge i r with q | q
      · have lt := hu.mp q
        have hp := h.pos i hi
        have : pe L i (E i) = 0 := by
          unfold pe
          rw [eg]
          have h1 : (L[i].take W)[E i]? = some 0 := by rw [z, List.getElem?_replicate, if_pos lt]
          rw [List.getElem?_take_of_lt lt] at h1
          unfold vf
          rw [List.getD_eq_getElem?_getD, h1]; rfl
        omega
      · exact q
    · intro q
      have ge : W ≤ E i := by
        rcases Nat.lt_or_ge (E i) W with z | z
        · have := hu.mpr z; omega
        · exact z
      refine pt_ext (by simp; omega) fun j hj => ?_
      have hj : j < W := by simp at hj; omega
      rw [vf_nought]
      have := h.zero i j hi (by omega)
      unfold pe at this
      rw [eg] at this
      unfold vf at this ⊢
      rw [List.getD_eq_getElem?_getD] at this ⊢
      rw [List.getElem?_take_of_lt hj]
      exact this
  rw [show L.filter (fun p => decide (p.take W = List.replicate W 0)) = (L.take r ++ L.drop r).filter (fun p => decide (p.take W = List.replicate W 0)) by rw [List.take_append_drop], List.filter_append]
  have h1 : (L.take r).filter (fun p => decide (p.take W = List.replicate W 0)) = [] := by
    rw [List.filter_eq_nil_iff]
    intro p hp
    obtain ⟨i, hi, rfl⟩ := List.mem_iff_getElem.mp hp
    rw [List.length_take] at hi
    rw [List.getElem_take, hit i (by omega)]
    simp; omega
  have h2 : (L.drop r).filter (fun p => decide (p.take W = List.replicate W 0)) = L.drop r := by
    rw [List.filter_eq_self]
    intro p hp
    obtain ⟨i, hi, rfl⟩ := List.mem_iff_getElem.mp hp
    rw [List.length_drop] at hi
    rw [List.getElem_drop, hit (r + i) (by omega)]
    simp
  rw [h1, h2, List.nil_append]
theorem vf_drop (p : Pt) (W j : Nat) : vf (p.drop W) j = vf p (W + j) := by
  unfold vf
  rw [List.getD_eq_getElem?_getD, List.getD_eq_getElem?_getD, List.getElem?_drop]
theorem getD_dm {L : List Pt} {r i : Nat} {f : Pt → Pt} (hi : i < L.length - r) : ((L.drop r).map f).getD i [] = f (L.getD (r + i) []) := by
  rw [List.getD_eq_getElem?_getD, List.getD_eq_getElem?_getD, List.getElem?_map, List.getElem?_drop, List.getElem?_eq_getElem (show r + i < L.length by omega)]
  rfl
theorem tails_hnf {W : Nat} {L : List Pt} {E : Nat → Nat} (h : Hnf (2 * W) L E) {r : Nat} (u : Upto h W r) : Hnf W ((L.drop r).map fun p => p.drop W) (fun i => E (r + i) - W) ∧ ∀ f, Lat ((L.drop r).map fun p => p.drop W).length (pe ((L.drop r).map fun p => p.drop W)) f ↔ Lat L.length (pe L) (cat W (fun _ => 0) f) := by
  have hlen : ((L.drop r).map fun p => p.drop W).length = L.length - r := by rw [List.length_map, List.length_drop]
  have hrl := u.le
  have ev : ∀ i, i < L.length - r → ∀ j, pe ((L.drop r).map fun p => p.drop W) i j = pe L (r + i) (W + j) := fun i hi j => by
    unfold pe
    rw [getD_dm hi, vf_drop]
  have ge : ∀ i, i < L.length - r → W ≤ E (r + i) := fun i hi => by
    rcases Nat.lt_or_ge (E (r + i)) W with z | z
    · have := (u.iff (r + i) (by omega)).mpr z; omega
    · exact z
  refine ⟨⟨fun i hi => ?_, fun i i' h1 h2 => ?_, fun i hi => ?_, fun i j hi hj => ?_, fun i hi => ?_, fun i i' h1 h2 => ?_⟩, fun f => ⟨fun hf => ?_, fun hf => ?_⟩⟩
  · rw [hlen] at hi
    have := h.len (r + i) (by omega)
    rw [getD_dm hi, List.length_drop]
    omega
  · rw [hlen] at h2
    have := h.mono (r + i) (r + i') (by omega) (by omega)
    have := ge i (by omega)
    show E (r + i) - W < E (r + i') - W
    omega
  · rw [hlen] at hi
    have := h.lt (r + i) (by omega)
    have := ge i hi
    show E (r + i) - W < W
    omega
  · rw [hlen] at hi
    rw [ev i hi]
    have : j < E (r + i) - W := hj
    exact h.zero (r + i) (W + j) (by omega) (by omega)
  · rw [hlen] at hi
    have g := ge i hi
    rw [ev i hi, show W + (E (r + i) - W) = E (r + i) by omega]
    exact h.pos (r + i) (by omega)
  · rw [hlen] at h2
    have g := ge i' h2
    rw [ev i (by omega), ev i' h2, show W + (E (r + i') - W) = E (r + i') by omega]
    exact h.red (r + i) (r + i') (by omega) (by omega)
  · have : ∀ k, k < ((L.drop r).map fun p => p.drop W).length → Lat L.length (pe L) (cat W (fun _ => 0) (pe ((L.drop r).map fun p => p.drop W) k)) := fun k hk => by
      rw [hlen] at hk
      refine (Lat.mem (g := pe L) (show r + k < L.length by omega)).of fun j => ?_
      unfold cat
      by_cases z : j < W
      · rw [if_pos z]
        exact h.zero (r + k) j (by omega) (by have := ge k hk; omega)
      · rw [if_neg z, ev k hk, show W + (j - W) = j by omega]
    induction hf with
    | zero => exact Lat.zero.of fun j => by unfold cat; split <;> rfl
    | @add f k c hk hf ih => exact (ih.lin (this k hk) c).of fun j => by unfold cat; split <;> simp
  · -- the rows ahead don't speak
    obtain ⟨c, hc⟩ := lat_comb hf
    have low : ∀ n, n ≤ r → ∀ i, i < n → c i = 0 := fun n => by
      induction n with
      | zero => intro _ i hi; omega
      | succ n ih =>
        intro hn i hi
        have ih := ih (by omega)
        by_cases e : i < n
        · exact ih i e
        · have e : i = n := by omega
          subst e
          have hE : E i < W := (u.iff i (by omega)).mp (by omega)
          have v : cat W (fun _ => 0) f (E i) = c i * pe L i (E i) := by
            rw [hc]
            refine sumN_single (k := i) (by omega) fun k hk hki => ?_
            by_cases a : k < i
            · rw [ih k a, Int.zero_mul]
            · rw [h.zero k (E i) hk (h.mono i k (by omega) hk), Int.mul_zero]
          unfold cat at v
          rw [if_pos hE] at v
          have hp := h.pos i (by omega)
          rcases Int.mul_eq_zero.mp v.symm with z | z
          · exact z
          · omega
    have key : ∀ j, f j = sumN (L.length - r) fun i => c (r + i) * pe ((L.drop r).map fun p => p.drop W) i j := fun j => by
      have v : f j = cat W (fun _ => 0) f (W + j) := by
        unfold cat
        rw [if_neg (by omega), show W + j - W = j by omega]
      rw [v, hc]
      have split : ∀ m, r + m ≤ L.length → (sumN (r + m) fun i => c i * pe L i (W + j)) = sumN m fun i => c (r + i) * pe L (r + i) (W + j) := fun m => by
        induction m with
        | zero => intro _; exact sumN_zero fun i hi => by rw [low r (Nat.le_refl _) i hi, Int.zero_mul]
        | succ m ih =>
          intro hm
          show sumN (r + m) _ + _ = sumN m _ + _
          rw [ih (by omega)]
          rfl
      have := split (L.length - r) (by omega)
      rw [show r + (L.length - r) = L.length by omega] at this
      rw [this]
      exact sumN_congr fun i hi => by rw [ev i hi]
    have := comb_lat (n := ((L.drop r).map fun p => p.drop W).length) (g := pe ((L.drop r).map fun p => p.drop W)) (fun i => c (r + i)) (L.length - r) (by rw [hlen]; exact Nat.le_refl _)
    exact this.of fun j => (key j).symm
structure ComOk (W b : Nat) (S T : List Pt) : Prop where
  s : StepsOk W b S
  t : StepsOk W b T
  w : W ≤ 50
  ns : S.length ≤ 40
  nt : T.length ≤ 40
  x : xs b (2 * W) ≤ 40000000
  y : ys b (2 * W) ≤ 90000000
theorem zipped_ok {W b : Nat} {S T : List Pt} (hs : StepsOk W b S) (ht : StepsOk W b T) : StepsOk (2 * W) b (zipped W S T) := stepsOk_mem fun p hp => by
  rcases List.mem_append.mp hp with h | h
  · obtain ⟨q, hq, rfl⟩ := List.mem_map.mp h
    obtain ⟨h1, h2⟩ := hs.mem hq
    exact ⟨by rw [List.length_append]; omega, fun x hx => (List.mem_append.mp hx).elim (h2 x) (h2 x)⟩
  · obtain ⟨q, hq, rfl⟩ := List.mem_map.mp h
    obtain ⟨h1, h2⟩ := ht.mem hq
    refine ⟨by rw [List.length_append, List.length_replicate]; omega, fun x hx => (List.mem_append.mp hx).elim (h2 x) fun z => ?_⟩
    rw [(List.mem_replicate.mp z).2]
    exact Nat.two_pow_pos _
theorem common_ok {W b : Nat} {S T : List Pt} (hs : StepsOk W b S) (ht : StepsOk W b T) : (∃ E, Hnf W (commonP W S T) E) ∧ (∀ f, Lat (commonP W S T).length (pe (commonP W S T)) f ↔ Lat S.length (pe S) f ∧ Lat T.length (pe T) f) ∧ ∀ p ∈ commonP W S T, p.length = W ∧ Bd (ys b (2 * W) + 1) p := by
  have hz := zipped_ok hs ht
  obtain ⟨E, hE⟩ := stairP_hnf hz
  obtain ⟨r, u⟩ := upto_ex hE W
  have e : commonP W S T = ((stairP (2 * W) (zipped W S T)).drop r).map fun p => p.drop W := by unfold commonP; rw [filter_drop u]
  obtain ⟨h1, h2⟩ := tails_hnf hE u
  have supp : ∀ {S : List Pt}, StepsOk W b S → ∀ {f : Nat → Int}, Lat S.length (pe S) f → ∀ j, W ≤ j → f j = 0 := fun {S} hS {f} hf j hj => hf.van fun k hk => vf_beyond (by rw [hS.len k hk]; exact hj)
  rw [e]
  refine ⟨⟨_, h1⟩, fun f => ?_, fun p hp => ?_⟩
  · rw [h2 f, (stairP_lat hz) _, lat_zipped (fun p hp => (hs.mem hp).1) (fun p hp => (ht.mem hp).1)]
    constructor
    · rintro ⟨a, b', ha, hb, he⟩
      have fa : ∀ j, f j = a j := fun j => by
        have := he (W + j)
        unfold cat at this
        rw [if_neg (by omega), if_neg (by omega), show W + j - W = j by omega] at this
        exact this
      refine ⟨ha.of fun j => (fa j).symm, (hb.mul (-1)).of fun j => ?_⟩
      by_cases z : j < W
      · have h0 : (0 : Int) = a j + b' j := by
          have := he j
          unfold cat at this
          rwa [if_pos z, if_pos z] at this
        have := fa j
        show -1 * b' j = f j
        omega
      · rw [fa j, supp hs ha j (by omega), supp ht hb j (by omega)]
        rfl
    · rintro ⟨ha, hb⟩
      refine ⟨f, _, ha, hb.mul (-1), fun j => ?_⟩
      unfold cat
      split
      · show (0 : Int) = f j + -1 * f j
        omega
      · rfl
  · obtain ⟨q, hq, rfl⟩ := List.mem_map.mp hp
    obtain ⟨i, hi, rfl⟩ := List.mem_iff_getElem.mp (List.mem_of_mem_drop hq)
    have eg : (stairP (2 * W) (zipped W S T)).getD i [] = (stairP (2 * W) (zipped W S T))[i] := by rw [List.getD_eq_getElem?_getD, List.getElem?_eq_getElem hi]; rfl
    have l1 := hE.len i hi
    have b1 := stairP_bd hz hi
    rw [eg] at l1 b1
    exact ⟨by rw [List.length_drop]; omega, fun x hx => b1 x (List.mem_of_mem_drop hx)⟩
theorem common_uniq {W b b' : Nat} {S T S' T' : List Pt} (hs : StepsOk W b S) (ht : StepsOk W b T) (hs' : StepsOk W b' S') (ht' : StepsOk W b' T') (h : ∀ f, (Lat S.length (pe S) f ∧ Lat T.length (pe T) f) ↔ (Lat S'.length (pe S') f ∧ Lat T'.length (pe T') f)) : commonP W S T = commonP W S' T' := by
  obtain ⟨⟨E, h1⟩, l1, _⟩ := common_ok hs ht
  obtain ⟨⟨E', h2⟩, l2, _⟩ := common_ok hs' ht'
  exact hnf_uniq h1 h2 fun f => (l1 f).trans ((h f).trans (l2 f).symm)
def spTogether (C : Addr) (K : PySem.W.Frag) : Sp := fun vs H Q _ => ∃ a b W k S T, vs = [.ref a, .ref b] ∧ FieldAt C K H a W S ∧ FieldAt C K H b W T ∧ Good W k (S ++ T) ∧ ∀ p xs H2, H p = none → Ex H H2 → H2 p = some (.lst xs) → DdAll K H2 xs ((stairP W (S ++ T)).map ptD) → Q (.ref p) H2
def spCommon (C : Addr) (K : PySem.W.Frag) : Sp := fun vs H Q _ => ∃ a b W k S T, vs = [.ref a, .ref b] ∧ FieldAt C K H a W S ∧ FieldAt C K H b W T ∧ ComOk W k S T ∧ ∀ p xs H2, H p = none → Ex H H2 → H2 p = some (.lst xs) → DdAll K H2 xs ((commonP W S T).map ptD) → Q (.ref p) H2
section
variable {K : PySem.W.Frag} {σ : L2.St} {H : Hp} {C : Addr} {E : XK} {ta tb : TE} {W k : Nat} {S T : List Pt}
theorem ef_together (h : EvFd C K ta σ H W S) (h2 : EvFd C K tb σ H W T) (hg : Good W k (S ++ T)) : EvF K (tCall (spTogether C K) [] E (tCons ta (tCons tb tNil))) σ H ((stairP W (S ++ T)).map ptD) := fun H1 e Q q =>
  h H1 e _ fun a H2 e2 hF => h2 H2 (ex_tr e e2) _ fun b H3 e3 hF2 => ⟨a, b, W, k, S, T, by simp, hF.up e3, hF2, hg, fun p xs H4 hp e4 => q p xs H4 (ex_back (ex_tr e2 e3) hp) (ex_tr e2 (ex_tr e3 e4))⟩
theorem ef_common (h : EvFd C K ta σ H W S) (h2 : EvFd C K tb σ H W T) (hg : ComOk W k S T) : EvF K (tCall (spCommon C K) [] E (tCons ta (tCons tb tNil))) σ H ((commonP W S T).map ptD) := fun H1 e Q q =>
  h H1 e _ fun a H2 e2 hF => h2 H2 (ex_tr e e2) _ fun b H3 e3 hF2 => ⟨a, b, W, k, S, T, by simp, hF.up e3, hF2, hg, fun p xs H4 hp e4 => q p xs H4 (ex_back (ex_tr e2 e3) hp) (ex_tr e2 (ex_tr e3 e4))⟩
end
end SF
namespace SF
open PySem PySem.Spec PyProof.Rows L2
structure ErrC (K : PySem.W.Frag) (mg : Str → Option Value) (x : Str) (D : Addr) : Prop where
  gX : mg x = some (.ref D)
  xX : PySem.W.excIn K D [.type "ValueError", .type "Exception", .type "BaseException", .type "object"] "ValueError.__new__" = true
  kX : PySem.W.keepIn K (.ref D) = true
  bX : PySem.W.subIn K (.ref D) (.type "BaseException") = some true
  tX : PySem.W.typeIn K (.ref D) = some (.type "type")
  dX : PySem.W.hasDictIn K D = true
section
variable {K : PySem.W.Frag} {mg : Str → Option Value} {x : Str} {D D2 : Addr}
theorem ErrC.exm (E : ErrC K mg x D) {cls : Value} {b : Bool} (h : PySem.W.subIn K cls (.ref D) = some b) : PySem.W.exmOne K cls (.ref D) = some b := PySem.W.exm_ref E.bX E.dX E.tX h
theorem ErrC.rs {X : Cx} (E : ErrC X.K mg x D) : Raises X (.ref D) := raises_own E.bX E.tX
end
theorem pss_no {X : Cx} {b : List Stmt} : PSs X b (fun _ _ _ => False) := ⟨fun _ _ _ _ _ _ h => h.elim⟩
structure CalX (P : Program) (w : World) (K : PySem.W.Frag) (mg : Str → Option Value) (base : Heap) (k : Nat) (x : Str) (ps : List Str) (sp : Sp) : Prop where
  ex : ∃ (f : Addr) (fd : FuncData), FnOk P w K mg base (L2.CX P w) k f fd ps sp ∧ mg x = some (.ref f) ∧ PySem.W.keepIn K (.ref f) = true ∧ Binds K fd ps []
theorem pe_calX {X : Cx} {W : WX} {k j : Nat} {x : Str} {ps : List Str} {sp : Sp} {e : Expr} {es : List Expr} {t : TA} {p pos : Pos} (C : CalX X.prog X.w X.K X.mg X.base k x ps sp) (hr : Room j X.A) (hk : k ≤ j) (tk : Takes X W) (hg : Gl X x) (ha : PA X (e :: es) t)
    (hdb : (x == ("__debug__" : Str)) = false := by decide) (he : starEach (e :: es) X.env = (false, eval e X.env) :: starEach es X.env := by rfl) (hpl : (backTo pos (starEach es X.env)).any (·.1) = false := by rfl) :
    PE X (.Call (.Name x p) (e :: es) [] pos) (tCallS sp (WE W) t) := by
  obtain ⟨f, fd, F, hm, hkp, hb⟩ := C.ex
  exact pe_callS F (hr.mono hk) hg hm hkp hb (fun σ => passAt tk σ) ha hdb he hpl
def spReachX (C D : Addr) (K : PySem.W.Frag) : Sp := fun vs H Q E => ∃ (a : Addr) (u : V) (W : Nat) (S : List Pt) (p : Pt) (k : Bool), vs = [.ref a, u] ∧ FieldAt C K H a W S ∧ Dd K H u (seqD k (p.map .int)) ∧ p.length ≠ W ∧ ∀ H2, Ex H H2 → E (.ref D) none H2
def spRefused (C : Addr) (K : PySem.W.Frag) : Sp := fun vs H Q _ => ∃ (a : Addr) (u : V) (W : Nat) (S : List Pt) (p : Pt) (k : Bool), vs = [.ref a, u] ∧ FieldAt C K H a W S ∧ Dd K H u (seqD k (p.map .int)) ∧ p.length ≠ W ∧ ∀ H2, Ex H H2 → Q (.bl true) H2
theorem er_refused {C : Addr} {K : PySem.W.Frag} {σ : L2.St} {H : Hp} {E : XK} {tf tp : TE} {W : Nat} {S : List Pt} {p : Pt} {k : Bool} (h1 : EvFd C K tf σ H W S) (h2 : EvD K tp σ H (seqD k (p.map .int))) (hne : p.length ≠ W) :
    EvD K (tCall (spRefused C K) [] E (tCons tf (tCons tp tNil))) σ H (.bool true) := fun H0 e0 Q q =>
  h1 H0 e0 _ fun a H1 e1 hF => h2 H1 (ex_tr e0 e1) _ fun u H2 e2 hu => ⟨a, u, W, S, p, k, by simp, hF.up e2, hu, hne, fun H3 e3 => q _ H3 (ex_tr e1 (ex_tr e2 e3)) (.bl true)⟩
end SF
namespace SF
open PySem PySem.Spec PyProof.Rows L2
def rIsP (K : PySem.W.Frag) (a : Addr) (cls : Value) (d : Option Addr) : List V → Hp → VK → Prop := fun xs H Q => ∃ (D : Addr) (c : V) (cv : Value) (b : Bool), cls = .ref D ∧ d = none ∧ ExcC K D ∧ xs = [.ref a, c] ∧ (∀ u, RelV c u → u = cv) ∧ PySem.W.kitOne K (.ref D) cv = some b ∧ Q (.bl b) H
theorem call_isP {X : Cx} {cls : Value} {d : Option Addr} {p : Addr × Obj} (hm : p ∈ X.pn) (hz : Zc cls d p.2) (hf : ∃ fs, p.2.data = .fields fs) : CallR X (.builtin "isinstance") (rIsP X.K p.1 cls d) := by
  rintro pins s σ H xs us Q I r ⟨D, c, cv, b, rfl, rfl, EC, rfl, hcv, hk, q⟩
  obtain ⟨u1, us1, rfl, r1, r2⟩ : ∃ u1 us1, us = u1 :: us1 ∧ RelV (.ref p.1) u1 ∧ Vals [c] us1 := by
    cases r with
    | cons h1 h2 => exact ⟨_, _, rfl, h1, h2⟩
  obtain ⟨u2, rfl, r3⟩ : ∃ u2, us1 = [u2] ∧ RelV c u2 := by
    cases r2 with
    | cons h1 h2 => cases h2; exact ⟨_, rfl, h1⟩
  obtain rfl : u1 = Value.ref p.1 := r1
  obtain rfl := hcv _ r3
  obtain ⟨fs, hfs⟩ := hf
  have there := (I.pin p (List.mem_append_left _ hm)).1
  have inst : PySem.W.InstAt s.heap p.1 p.2 D none := by
    obtain ⟨pa, c0, d0, dt, sl⟩ := p
    obtain ⟨z1, z2⟩ := hz
    dsimp only at z1 z2 hfs
    subst z1 z2 hfs
    exact ⟨there, rfl, rfl, trivial⟩
  have kx := PySem.W.handS_kitx_exc (x := p.1) (ox := p.2) EC.hg EC.hk EC.hs EC.hd EC.ha EC.hn EC.ht EC.hm
  exact PySem.W.kia_one kx I.kIn inst hk (by intro z; cases z) fun tk => ⟨.bl b, H, I.kept (t' := tk) fun _ _ z => z, rfl, q⟩
abbrev SpP := Addr → Value → Option Addr → Sp
structure FnP (P : Program) (w : World) (K : PySem.W.Frag) (mg : Str → Option Value) (base : Heap) (k : Nat) (f : Addr) (fd : FuncData) (ps : List Str) (sp : SpP) : Prop where
  len : ∀ a cls d vs H Q E, sp a cls d vs H Q E → vs.length = ps.length
  run : ∀ (A : Around) (out : List Env) (s : Shared) (H : Hp) (args : Args) (us : List Value) (vs : List V) (Q : VK) (p : Addr × Obj) (cls : Value) (d : Option Addr), L2H.RoomH k A → L2H.PinOk out H s p → Zc cls d p.2 → (∃ fs, p.2.data = .fields fs) →
    Env0 P w K mg base A out s H → BindsTo s fd args (ps.zip us) → Vals vs us → sp p.1 cls d vs H Q E0 → codeAny (model P w) A (.call (.ref f) args) (CR L2.CX0 out P w H s Q E0) s
section
variable {P : Program} {w : World} {K : PySem.W.Frag} {mg : Str → Option Value} {base : Heap}
theorem Fun.okP {x qual : Str} {st : Stmt} {f : Addr} {fd : FuncData} {N ps : List Str} {k : Nat} {sp : SpP} (F : Fun K x qual st f fd) (Z : FnScope N ps (defScope st)) (len : ∀ a cls d vs H Q E, sp a cls d vs H Q E → vs.length = ps.length)
    (walk : ∀ (cdv : Value) (A : Around) (out : List Env) (s : Shared) (H : Hp) (vs : List V) (Q : VK) (p : Addr × Obj) (cls : Value) (d : Option Addr), Zc cls d p.2 → (∃ fs, p.2.data = .fields fs) → sp p.1 cls d vs H Q E0 →
      ∃ t, PSs (L2H.cxH L2.CX0 P w K mg base N qual (defScope st) f cdv A out s H E0 p) (defBody st) t ∧ t { nx := fun _ H' => Q .non H', rt := Q } (L2.start N vs) H) : FnP P w K mg base (k + 1) f fd ps sp := by
  obtain ⟨oc, od, kV, doc, pm, an, cdv, ct, osl, rfl, atF, isC⟩ := F.ex
  refine ⟨len, fun A out s H args us vs Q p cls d room pin zc fl e0 bind vals told => ?_⟩
  have many := len _ _ _ _ _ _ _ told
  have inS : K.In s.heap := e0.mod.kin.keeps fun b o z => (e0.bs b o z).1
  refine codeAny_call_function room.depth (inS _ _ atF) rfl Z.co Z.gen rfl (PySem.W.codeRec_of inS isC) (bind _ _ _ _ ?_)
  refine wpAny_newFunctionEnv_cells Z.kind (fun ⟨n, v⟩ hy => (Z.par n (List.of_mem_zip hy).1).elim .inl fun c => .inr ⟨c, PySem.W.cellsFrom_some _ _ _ (.inl c)⟩) fun env he s1 made => ?_
  subst he
  refine ⟨(e0.mod.nolimit.keeps fun b o z => (e0.bs b o z).1).keeps made.toInCall.keep, codeAny_func ?_⟩
  obtain ⟨t, body, read⟩ := walk cdv A out s H vs Q p cls d zc fl told
  have start : Inv (L2H.cxH L2.CX0 P w K mg base N qual (defScope st) f cdv A out s H E0 p) [] (L2.start N vs) H s1 := L2H.inv_startH Z pin e0 many vals made
  refine wpAny_mono (body.run [] s1 (L2.start N vs) H _ start read) (fun way s' got => ?_) fun _ _ z => z
  match way, got with
  | .ret _, ⟨v, σ2, H2, J, rv, q⟩ => exact ⟨v, H2, J.os, J.bare, J.base, J.hok, rv, q⟩
  | .next, ⟨σ2, H2, J, q⟩ => exact ⟨V.non, H2, J.os, J.bare, J.base, J.hok, rfl, q⟩
  | .brk, ⟨_, _, _, q⟩ => exact q.elim
  | .cont, ⟨_, _, _, q⟩ => exact q.elim
structure CalP (P : Program) (w : World) (K : PySem.W.Frag) (mg : Str → Option Value) (base : Heap) (k : Nat) (x : Str) (ps : List Str) (sp : SpP) : Prop where
  ex : ∃ (f : Addr) (fd : FuncData), FnP P w K mg base k f fd ps sp ∧ mg x = some (.ref f) ∧ PySem.W.keepIn K (.ref f) = true ∧ Binds K fd ps []
end
theorem roomH_mark {k : Nat} {A : Around} {v : Option Value} (r : L2H.RoomH k A) : L2H.RoomH k (A.mark v) := ⟨r.dp, r.un⟩
def tCallP (sp : SpP) (a : Addr) (cls : Value) (d : Option Addr) (t : TA) : TE := fun σ H Q => t σ H fun vs H1 => sp a cls d vs H1 Q E0
theorem pe_calP {X : Cx} {k j : Nat} {x : Str} {ps : List Str} {sp : SpP} {cls : Value} {d : Option Addr} {a0 : Addr} {oe : Obj} {e : Expr} {es : List Expr} {t : TA} {np pos : Pos} (C : CalP X.prog X.w X.K X.mg X.base k x ps sp) (hr : L2H.RoomH j X.A) (hk : k ≤ j)
    (hm : (a0, oe) ∈ X.pn) (hz : Zc cls d oe) (hf : ∃ fs, oe.data = .fields fs) (hg : Gl X x) (ha : PA X (e :: es) t)
    (hdb : (x == ("__debug__" : Str)) = false := by decide) (he : starEach (e :: es) X.env = (false, eval e X.env) :: starEach es X.env := by rfl) (hpl : (backTo pos (starEach es X.env)).any (·.1) = false := by rfl) :
    PE X (.Call (.Name x np) (e :: es) [] pos) (tCallP sp a0 cls d t) := by
  obtain ⟨f, fd, F, at_, kp, bi⟩ := C.ex
  refine ⟨fun pins s σ H Q I asked => wpAny_Call_Name_kw (ld_glob I hg at_ ?_ hdb)⟩
  refine PySem.W.callWith_K (h₀ := X.base) I.ok.mod.kin kp (thn (ha.run pos pins s σ H _ I asked) fun us s1 hx => ?_) he hpl
  obtain ⟨vs, H1, I1, vals, told⟩ := hx
  refine ⟨I1.kIn, ?_⟩
  have b := bi s1 us I1.kIn (by rw [List.append_nil, ← vals.length]; exact F.len _ _ _ _ _ _ _ told)
  rw [List.append_nil] at b
  obtain ⟨here, free, notL, notF, noC⟩ := I1.pin (a0, oe) (List.mem_append_left _ hm)
  have pin : L2H.PinOk X.stack H1 s1 (a0, oe) := ⟨here, free, fun z => by rcases List.mem_cons.mp (I1.stkSub a0 z) with y | y <;> contradiction, noC⟩
  refine wpAny_call (codeAny_mono (F.run X.A X.stack s1 H1 ⟨us, []⟩ us vs Q (a0, oe) cls d (hr.mono hk) pin hz hf I1.env0 b vals told) fun way s2 got => ?_)
  match way, got with
  | .error _, z => exact z.elim
  | .ok (.ret _), z => exact I1.after z
  | .ok .next, z => exact z.elim
  | .ok .brk, z => exact z.elim
  | .ok .cont, z => exact z.elim
def spWhich (K : PySem.W.Frag) (C1 C2 C3 C4 C5 : Addr) : SpP := fun a cls d vs H Q _ => ∃ (D : Addr) (b1 b2 b3 b4 b5 b6 : Bool), vs = [.ref a] ∧ cls = .ref D ∧ d = none ∧ ExcC K D ∧
  PySem.W.kitOne K (.ref D) (.ref C1) = some b1 ∧ PySem.W.kitOne K (.ref D) (.ref C2) = some b2 ∧ PySem.W.kitOne K (.ref D) (.ref C3) = some b3 ∧ PySem.W.kitOne K (.ref D) (.ref C4) = some b4 ∧ PySem.W.kitOne K (.ref D) (.ref C5) = some b5 ∧
  PySem.W.kitOne K (.ref D) (.type "ValueError") = some b6 ∧ ∀ l xs H2, H l = none → Ex H H2 → H2 l = some (.lst xs) → DdAll K H2 xs [.bool b1, .bool b2, .bool b3, .bool b4, .bool b5, .bool b6] → Q (.ref l) H2
end SF
namespace SF
open PySem PySem.Spec PyProof.Rows L2
def spUnlikeX (C D : Addr) (K : PySem.W.Frag) : Sp := fun vs H Q E => ∃ (a b : Addr) (W W2 : Nat) (S R : List Pt), vs = [.ref a, .ref b] ∧ FieldAt C K H a W S ∧ FieldAt C K H b W2 R ∧ W ≠ W2 ∧ ∀ H2, Ex H H2 → E (.ref D) none H2
theorem eqv_intD (a b : Int) : PyData.eqv (.int a) (.int b) = decide (a = b) := by
  show (a == b) = _
  rw [Bool.eq_iff_iff, decide_eq_true_eq, beq_iff_eq]
def dueD (p : Int) : List PyData := ([0, 1, 2, 3, 4] : List Int).map (fun k => .bool (decide (k = p))) ++ [.bool true]
def RDue (ds es : List PyData) : Prop := ∃ p : Int, ds = [.int p] ∧ es = dueD p
def spAsked (C : Addr) (K : PySem.W.Frag) : Sp := fun vs H Q _ => ∃ (way : Int) (a b : Addr) (W W2 : Nat) (S R : List Pt), vs = [.int way, .ref a, .ref b] ∧ FieldAt C K H a W S ∧ FieldAt C K H b W2 R ∧
  (W = W2 → ∃ k, Good W k S ∧ Good W k R ∧ Good W k (S ++ R) ∧ ComOk W k S R) ∧
  ∀ l xs H2 ds, H l = none → Ex H H2 → H2 l = some (.lst xs) → DdAll K H2 xs ds → (W ≠ W2 → ds = dueD 4) → (W = W2 → ds.length = 1) → Q (.ref l) H2
section
variable {K : PySem.W.Frag} {σ : L2.St} {H : Hp} {C : Addr} {E : XK} {W : Nat}
theorem er_makeG {Pr : List Pt → Prop} {sp : Addr} {iw : Nat} {ts : TE} (hw : σ[iw]? = some (some (.int (W : Int))))
    (h : EvR ts σ H (fun v H' => ∃ l xs S p', v = .ref l ∧ Ex1 sp H H' ∧ H' sp = some (.lst [.int ((p' : Nat) : Int)]) ∧ H' l = some (.lst xs) ∧ DdAll K H' xs (S.map ptD) ∧ FOk W S ∧ Pr S)) :
    EvR (tMake C (spInit C K) [] E (tCons (tVar iw) (tCons ts tNil))) σ H (fun v H' => ∃ a l S p', v = .ref a ∧ Ex1 sp H H' ∧ H' sp = some (.lst [.int ((p' : Nat) : Int)]) ∧ FieldL C K H' a l W S ∧ l ≠ sp ∧ Pr S) := fun Q q => by
  refine ⟨_, hw, h _ ?_⟩
  rintro v H2 ⟨l, xs, S, p', rfl, e2, g2, hl2, hd, fok, hS⟩
  refine fun a dx ha hdx hne => ?_
  have e3 : Ex H2 (upd (upd H2 dx (.own a)) a (.ins C dx [])) := fun b o hb => by
    rw [upd_ne (ne_of_none hb ha), upd_ne (ne_of_none hb hdx)]
    exact hb
  refine ⟨a, dx, _, W, S, S.map ptD, by simp, upd_same, (Dd.lst (SqL.of hl2) hd).up e3, handed_pts S, fok, fun H' l' hl' hF' hk => ⟨rfl, ?_⟩⟩
  have e4 : Ex H2 H' := fun b o hb => hk b o (e3 b o hb) (ne_of_none hb ha)
  exact q _ H' ⟨a, l', S, p', rfl, ex1_tr e2 (ex1_of e4), e4 sp _ g2, hF', (by rintro rfl; rw [e3 _ _ g2] at hl'; cases hl'), hS⟩
theorem FieldL.ex1b {a l s : Addr} {H' : Hp} {S : List Pt} {ys : List V} (h : FieldL C K H a l W S) (e : Ex1 s H H') (hs : H s = some (.lst ys)) (hl : l ≠ s) : FieldL C K H' a l W S := by
  obtain ⟨dx, xs, h1, h2, h3⟩ := h
  exact ⟨dx, xs, e a _ h1 (by rintro rfl; rw [hs] at h1; cases h1), e l _ h2 hl, h3.tx (tex1 e hs) (tupOAll_map tupO_pt S)⟩
end
end SF
namespace SF
open PySem PySem.Spec PyProof.Rows L2 TL NumText
def numI (i : Int) : List Nat := if i < 0 then 45 :: numL i.natAbs else numL i.natAbs
theorem tl_int (i : Int) : tl (Str.ofString (toString i)) = numI i := by
  unfold numI
  split
  · rename_i h
    rw [toString_neg h, tl_ofString, String.toList_append, List.map_append]
    have e : (0 - i : Int) = ((i.natAbs : Nat) : Int) := by omega
    rw [e]
    have t := tl_num i.natAbs
    rw [tl_ofString] at t
    rw [t]
    rfl
  · rename_i h
    have e : i = ((i.natAbs : Nat) : Int) := by omega
    rw [e, tl_num, Int.natAbs_natCast]
theorem numI_free {i : Int} {s : Nat} (h : s < 45 ∨ (45 < s ∧ s < 48) ∨ 57 < s) : s ∉ numI i := fun hm => by
  unfold numI at hm
  split at hm
  · rcases List.mem_cons.mp hm with h' | h'
    · omega
    · exact numL_free (by omega) h'
  · exact numL_free (by omega) hm
theorem numI_ne (i : Int) : numI i ≠ [] := by
  unfold numI
  split
  · simp
  · exact numL_ne _
def figsOf : List Nat → List Nat
  | 45 :: r => r
  | w => w
def digit (c : Nat) : Bool := decide (48 ≤ c) && decide (c ≤ 57)
theorem digit_iff {l : List Nat} : l.all digit = true ↔ AllDigits l := by
  unfold AllDigits digit
  simp [List.all_eq_true]
def numOf (w : List Nat) : Option Int :=
  if ¬ (1 ≤ (figsOf w).length ∧ (figsOf w).length ≤ 16) ∨ (1 < (figsOf w).length ∧ (figsOf w).head? = some 48) ∨ w = [45, 48] then none
  else if (figsOf w).all digit = true then
    if 1000000000000000 < digitsVal (figsOf w) then none else some (if w.head? = some 45 then -((digitsVal (figsOf w) : Nat) : Int) else ((digitsVal (figsOf w) : Nat) : Int))
  else none
theorem figs_cases (w : List Nat) : (w.head? = some 45 ∧ w = 45 :: figsOf w) ∨ (w.head? ≠ some 45 ∧ figsOf w = w) := by
  match w with
  | [] => exact .inr ⟨by simp, rfl⟩
  | c :: r =>
    by_cases h : c = 45
    · subst h; exact .inl ⟨rfl, rfl⟩
    · refine .inr ⟨by simpa using h, ?_⟩
      unfold figsOf
      split
      · rename_i e; injection e with e1 e2; exact absurd e1 h
      · rfl
theorem numL_head {n : Nat} (h : 0 < n) : (numL n).head? ≠ some 48 := by
  induction n using Nat.strongRecOn with
  | _ n ih =>
    by_cases hn : n < 10
    · rw [numL_lt hn]
      simp
      omega
    · rw [numL_step (by omega)]
      have := ih (n / 10) (by omega) (by omega)
      cases e : numL (n / 10) with
      | nil => exact absurd e (numL_ne _)
      | cons a r =>
        rw [e] at this
        simpa using this
theorem numL_zero : numL 0 = [48] := numL_lt (by decide)
theorem digitsVal_numL (n : Nat) : digitsVal (numL n) = n := numL_val n
theorem numOf_numI {i : Int} (h : i.natAbs ≤ 1000000000000000) : numOf (numI i) = some i := by
  have hd := numL_digits i.natAbs
  have hl : (numL i.natAbs).length ≤ 16 := numL_len (by decide) (by have : (10 : Nat) ^ 16 = 10000000000000000 := by decide
                                                                    omega)
  have hn : 1 ≤ (numL i.natAbs).length := by
    have := numL_ne i.natAbs
    cases e : numL i.natAbs with
    | nil => exact absurd e this
    | cons a r => simp
  have hfig : figsOf (numI i) = numL i.natAbs := by
    unfold numI
    split
    · rfl
    · rcases figs_cases (numL i.natAbs) with ⟨h1, _⟩ | ⟨_, h2⟩
      · exfalso
        have : 45 ∈ numL i.natAbs := List.mem_of_mem_head? h1
        have := hd 45 this
        omega
      · exact h2
  unfold numOf
  rw [hfig, if_neg, if_pos (digit_iff.mpr hd), digitsVal_numL, if_neg (by omega)]
  · congr 1
    unfold numI
    by_cases z : i < 0
    · rw [if_pos z]
      simp
      omega
    · rw [if_neg z, if_neg]
      · omega
      · intro q
        have : 45 ∈ numL i.natAbs := List.mem_of_mem_head? q
        have := hd 45 this
        omega
  · rintro (z | ⟨z1, z2⟩ | z)
    · exact z ⟨hn, hl⟩
    · by_cases q : 0 < i.natAbs
      · exact numL_head q z2
      · have : i.natAbs = 0 := by omega
        rw [this, numL_zero] at z1
        simp at z1
    · unfold numI at z
      split at z
      · rename_i q
        injection z with _ z
        have : numL i.natAbs = numL 0 := by rw [z, numL_zero]
        have := numL_inj this
        omega
      · have : 45 ∈ numL i.natAbs := by rw [z]; simp
        have := hd 45 this
        omega
def allOf {α β : Type} (f : α → Option β) : List α → Option (List β)
  | [] => some []
  | a :: r => match f a, allOf f r with
    | some b, some bs => some (b :: bs)
    | _, _ => none
section
variable {α β : Type} {f : α → Option β}
theorem allOf_some : ∀ {l : List α} {bs : List β}, allOf f l = some bs → bs.length = l.length ∧ ∀ (i : Nat) a, l[i]? = some a → ∃ b, f a = some b ∧ bs[i]? = some b
  | [], bs, h => by
    cases h
    exact ⟨rfl, fun i a h => by simp at h⟩
  | a :: r, bs, h => by
    unfold allOf at h
    split at h
    · rename_i b cs h1 h2
      cases h
      obtain ⟨e1, e2⟩ := allOf_some h2
      refine ⟨by simp [e1], fun i a' hi => ?_⟩
      cases i with
      | zero =>
        simp at hi
        subst hi
        exact ⟨b, h1, rfl⟩
      | succ i =>
        simp at hi
        obtain ⟨b', q1, q2⟩ := e2 i a' hi
        exact ⟨b', q1, by simpa using q2⟩
    · cases h
theorem allOf_of : ∀ {l : List α}, (∀ (i : Nat) a, l[i]? = some a → f a ≠ none) → ∃ bs, allOf f l = some bs
  | [], _ => ⟨[], rfl⟩
  | a :: r, h => by
    obtain ⟨bs, e⟩ := allOf_of (l := r) fun i a' hi => h (i + 1) a' (by simpa using hi)
    have h0 := h 0 a rfl
    cases e1 : f a with
    | none => exact absurd e1 h0
    | some b => exact ⟨b :: bs, by unfold allOf; rw [e1, e]⟩
theorem allOf_none {l : List α} {i : Nat} {a : α} (h1 : l[i]? = some a) (h2 : f a = none) : allOf f l = none := by
  cases e : allOf f l with
  | none => rfl
  | some bs =>
    obtain ⟨_, e2⟩ := allOf_some e
    obtain ⟨b, q, _⟩ := e2 i a h1
    rw [h2] at q
    cases q
theorem allOf_map {γ : Type} {g : γ → α} (h : γ → β) : ∀ {l : List γ}, (∀ c ∈ l, f (g c) = some (h c)) → allOf f (l.map g) = some (l.map h)
  | [], _ => rfl
  | c :: l, hh => by
    rw [List.map_cons, List.map_cons, allOf, hh c (List.mem_cons_self ..), allOf_map h fun d hd => hh d (List.mem_cons_of_mem _ hd)]
end
def wordsOf (r : List Nat) : List (List Nat) := spl [32] 0 [] r
def rowsOf (z : List Nat) : List (List Nat) := spl [10] 0 [] z
def widL : List Nat := [119, 105, 100, 116, 104]
def stepOf (W : Nat) (r : List Nat) : Option Pt := if (wordsOf r).length = W then allOf numOf (wordsOf r) else none
def headOf (r : List Nat) : Option Int := match wordsOf r with
  | [h, w] => if h = widL then numOf w else none
  | _ => none
def parseR : List (List Nat) → Option (Nat × List Pt)
  | [] => none
  | r :: rs => match headOf r with
    | none => none
    | some n => if 1 ≤ n ∧ n ≤ 4 ∧ rs.length ≤ 6 then (allOf (stepOf n.toNat) rs).map (fun S => (n.toNat, S)) else none
def parse (z : List Nat) : Option (Nat × List Pt) := parseR (rowsOf z)
def rowL (p : Pt) : List Nat := joinL [32] (p.map numI)
def headL (W : Nat) : List Nat := widL ++ 32 :: numL W
def rowsL (W : Nat) (S : List Pt) : List (List Nat) := headL W :: S.map rowL
def textL (W : Nat) (S : List Pt) : List Nat := joinL [10] (rowsL W S)
theorem joinL_mem {s : Nat} {c : Nat} : ∀ {ps : List (List Nat)}, c ∈ joinL [s] ps → c = s ∨ ∃ p ∈ ps, c ∈ p
  | [], h => by cases h
  | [p], h => .inr ⟨p, by simp, h⟩
  | p :: q :: r, h => by
    have h' : c ∈ p ++ ([s] ++ joinL [s] (q :: r)) := h
    rcases List.mem_append.mp h' with h' | h'
    · exact .inr ⟨p, by simp, h'⟩
    · rcases List.mem_append.mp h' with h' | h'
      · exact .inl (List.mem_singleton.mp h')
      · rcases joinL_mem h' with h' | ⟨p', h1, h2⟩
        · exact .inl h'
        · exact .inr ⟨p', List.mem_cons_of_mem _ h1, h2⟩
theorem rowL_free {p : Pt} {s : Nat} (h : s < 32 ∨ 57 < s) : s ∉ rowL p := fun hm => by
  rcases joinL_mem hm with e | ⟨w, hw, hc⟩
  · omega
  · obtain ⟨i, _, rfl⟩ := List.mem_map.mp hw
    exact numI_free (by omega) hc
theorem headL_free {W s : Nat} (h : s < 32) : s ∉ headL W := fun hm => by
  unfold headL widL at hm
  simp only [List.mem_append, List.mem_cons, List.not_mem_nil, or_false] at hm
  rcases hm with hm | hm | hm
  · omega
  · omega
  · exact numL_free (by omega) hm
theorem words_joined {ps : List (List Nat)} (hne : ps ≠ []) (h : ∀ p ∈ ps, 32 ∉ p) : wordsOf (joinL [32] ps) = ps := spl_join hne h
theorem rows_joined {ps : List (List Nat)} (hne : ps ≠ []) (h : ∀ p ∈ ps, 10 ∉ p) : rowsOf (joinL [10] ps) = ps := spl_join hne h
theorem words_row {p : Pt} (hp : p ≠ []) : wordsOf (rowL p) = p.map numI := words_joined (by simpa using hp) fun w hw => by
  obtain ⟨i, _, rfl⟩ := List.mem_map.mp hw
  exact numI_free (by omega)
theorem words_head (W : Nat) : wordsOf (headL W) = [widL, numL W] := by
  have e : headL W = joinL [32] [widL, numL W] := rfl
  rw [e]
  refine words_joined (by simp) fun w hw => ?_
  simp only [List.mem_cons, List.not_mem_nil, or_false] at hw
  rcases hw with rfl | rfl
  · decide
  · exact numL_free (by omega)
theorem rows_text (W : Nat) (S : List Pt) : rowsOf (textL W S) = rowsL W S := by
  refine rows_joined (by simp [rowsL]) fun r hr => ?_
  unfold rowsL at hr
  rcases List.mem_cons.mp hr with rfl | hr
  · exact headL_free (by decide)
  · obtain ⟨p, _, rfl⟩ := List.mem_map.mp hr
    exact rowL_free (by omega)
theorem numI_nat (n : Nat) : numI (n : Int) = numL n := by
  unfold numI
  rw [if_neg (by omega)]
  rfl
theorem headOf_head {W : Nat} (h : W ≤ 4) : headOf (headL W) = some (W : Int) := by
  unfold headOf
  rw [words_head]
  simp only [if_true]
  rw [← numI_nat, numOf_numI (by omega)]
theorem stepOf_row {p : Pt} {W : Nat} (hW : 1 ≤ W) (hl : p.length = W) (hb : ∀ x ∈ p, x.natAbs ≤ 1000000000000000) : stepOf W (rowL p) = some p := by
  unfold stepOf
  have hne : p ≠ [] := by rintro rfl; simp at hl; omega
  rw [words_row hne, if_pos (by rw [List.length_map, hl])]
  have := allOf_map (f := numOf) (g := numI) id (l := p) fun c hc => by rw [numOf_numI (hb c hc)]; rfl
  rw [this, List.map_id]
theorem parse_text {W : Nat} {S : List Pt} (h1 : 1 ≤ W) (h4 : W ≤ 4) (hn : S.length ≤ 6) (hl : ∀ p ∈ S, p.length = W) (hb : ∀ p ∈ S, ∀ x ∈ p, x.natAbs ≤ 1000000000000000) : parse (textL W S) = some (W, S) := by
  unfold parse
  rw [rows_text]
  show (match headOf (headL W) with
    | none => none
    | some n => if 1 ≤ n ∧ n ≤ 4 ∧ (S.map rowL).length ≤ 6 then (allOf (stepOf n.toNat) (S.map rowL)).map (fun S => (n.toNat, S)) else none) = _
  rw [headOf_head h4]
  simp only []
  have e : ((W : Nat) : Int).toNat = W := by omega
  rw [if_pos ⟨by omega, by omega, by rw [List.length_map]; exact hn⟩, e]
  have := allOf_map (f := stepOf W) (g := rowL) id (l := S) fun p hp => stepOf_row h1 (hl p hp) (hb p hp)
  rw [this, List.map_id]
  rfl
theorem parseR_some {rs : List (List Nat)} {W : Nat} {S : List Pt} (h : parseR rs = some (W, S)) : ∃ r0 rest, rs = r0 :: rest ∧ headOf r0 = some (W : Int) ∧ 1 ≤ W ∧ W ≤ 4 ∧ rest.length ≤ 6 ∧ allOf (stepOf W) rest = some S := by
  match rs, h with
  | r :: rs, h =>
    have h : (match headOf r with
      | none => none
      | some n => if 1 ≤ n ∧ n ≤ 4 ∧ rs.length ≤ 6 then (allOf (stepOf n.toNat) rs).map (fun S => (n.toNat, S)) else none) = some (W, S) := h
    cases e : headOf r with
    | none => rw [e] at h; cases h
    | some n =>
      rw [e] at h
      simp only [] at h
      split at h
      · rename_i c
        cases e2 : allOf (stepOf n.toNat) rs with
        | none => rw [e2] at h; cases h
        | some S' =>
          rw [e2] at h
          injection h with h
          injection h with h1 h2
          subst h1 h2
          exact ⟨r, rs, rfl, by rw [e]; congr 1; omega, by omega, by omega, c.2.2, e2⟩
      · cases h
end SF
namespace SF
open PySem PySem.Spec PyProof.Rows L2 TL NumText
section
variable {K : PySem.W.Frag} {σ : L2.St} {H : Hp} {ta tb te : TE} {a b : Str}
theorem dd_strs {H : Hp} : ∀ ys : List Str, DdAll K H (ys.map V.str) (ys.map PyData.str)
  | [] => .nil
  | y :: ys => .cons (.str y) (dd_strs ys)
theorem dp_strs {H : Hp} : ∀ {ys : List Str} {vs : List V}, DdAll K H vs (ys.map PyData.str) → vs = ys.map V.str
  | [], _, h => by cases h; rfl
  | y :: ys, _, h => by
    cases h with
    | cons h1 h2 => rw [dp_str h1, dp_strs h2]; rfl
def rSplit : V → List V → Hp → VK → Prop := fun x xs H Q => ∃ a b, x = .str a ∧ xs = [.str b] ∧ (b.length == 0) = false ∧ a.length + 2 ≤ sizeLine ∧ rNewStrs (Txt.split a b) H Q
theorem ef_split (h : EvD K ta σ H (.str a)) (h2 : EvD K tb σ H (.str b)) (hb : (b.length == 0) = false) (ha : a.length ≤ 90000) : EvF K (tM1 rSplit ta tb) σ H ((Txt.split a b).map .str) := fun H1 e Q q =>
  h H1 e _ fun v H2 e2 hv => by
    obtain rfl := dp_str hv
    refine ⟨⟨a, rfl⟩, ?_⟩
    refine h2 H2 (ex_tr e e2) _ fun w H3 e3 hw => ?_
    obtain rfl := dp_str hw
    exact ⟨a, b, rfl, rfl, hb, Evl.sz_of (by omega), fun p hp => q p _ _ (ex_back (ex_tr e2 e3) hp) (ex_tr e2 (ex_tr e3 (ex_new hp))) upd_same (dd_strs _)⟩
def rJoin (K : PySem.W.Frag) : V → List V → Hp → VK → Prop := fun x xs H Q => ∃ a p, ∃ ys : List Str, x = .str a ∧ xs = [.ref p] ∧ (SqL K H p (ys.map V.str) ∨ SqT K H p (ys.map V.str)) ∧
  (ys.map (·.length)).sum + ys.length * a.length ≤ 16777216 ∧ Q (.str (Txt.join a ys)) H
theorem ev_join {ys : List Str} (h : EvD K ta σ H (.str a)) (h2 : EvD K tb σ H (.list (ys.map .str))) (hz : (ys.map (·.length)).sum + ys.length * a.length ≤ 16777216) : EvD K (tM1 (rJoin K) ta tb) σ H (.str (Txt.join a ys)) := fun H1 e Q q =>
  h H1 e _ fun v H2 e2 hv => by
    obtain rfl := dp_str hv
    refine ⟨⟨a, rfl⟩, ?_⟩
    refine h2 H2 (ex_tr e e2) _ fun w H3 e3 hw => ?_
    obtain ⟨p, xs, rfl, hs, ha⟩ := dp_lst hw
    obtain rfl := dp_strs ha
    exact ⟨a, p, ys, rfl, rfl, .inl hs, hz, q _ H3 (ex_tr e2 e3) (.str _)⟩
def rFind : V → List V → Hp → VK → Prop := fun x xs H Q => ∃ a b, x = .str a ∧ xs = [.str b] ∧ Q (.int (Txt.find a b)) H
theorem ev_find (h : EvD K ta σ H (.str a)) (h2 : EvD K tb σ H (.str b)) : EvD K (tM1 rFind ta tb) σ H (.int (Txt.find a b)) := fun H1 e Q q =>
  h H1 e _ fun v H2 e2 hv => by
    obtain rfl := dp_str hv
    refine ⟨⟨a, rfl⟩, ?_⟩
    refine h2 H2 (ex_tr e e2) _ fun w H3 e3 hw => ?_
    obtain rfl := dp_str hw
    exact ⟨a, b, rfl, rfl, q _ H3 (ex_tr e2 e3) (.int _)⟩
theorem rd_addS (h : a.length + b.length ≤ 100000) : RD K (rAddA K) (.str a) (.str b) (.str (a ++ b)) := fun x y H hx hy Q q => by
  cases hx; cases hy
  exact .inr (.inr (.inr ⟨a, b, rfl, rfl, Evl.sz_of h, q _ H ex_refl (.str _)⟩))
def rStrI : List V → Hp → VK → Prop := fun xs H Q => ∃ i, xs = [.int i] ∧ i.natAbs.log2 < 1920 ∧ Q (.str (toString i)) H
theorem rc_str {i : Int} (h : i.natAbs ≤ 1000000000000000000) : RC K rStrI [.int i] (.str (Str.ofString (toString i))) := fun vs H hv Q q => by
  cases hv with
  | cons h1 h2 =>
    cases h1; cases h2
    refine ⟨i, rfl, ?_, q _ H ex_refl (.str _)⟩
    by_cases z : i.natAbs = 0
    · rw [z]; decide
    · have : i.natAbs.log2 < 60 := (Nat.log2_lt z).mpr (Nat.lt_of_le_of_lt h (by decide))
      omega
def rLenS : List V → Hp → VK → Prop := fun xs H Q => ∃ z, xs = [.str z] ∧ z.length ≤ sizeLine ∧ Q (.int z.length) H
theorem rc_lenS (h : a.length ≤ 100000) : RC K rLenS [.str a] (.int (a.length : Nat)) := fun vs H hv Q q => by
  cases hv with
  | cons h1 h2 => cases h1; cases h2; exact ⟨a, rfl, Evl.sz_of h, q _ H ex_refl (.int _)⟩
theorem ev_slS {tl th : TO} {lo hi : Option Int} (h : EvD K ta σ H (.str a)) (h1 : EvO K tl σ H lo) (h2 : EvO K th σ H hi) (hz : a.length ≤ 100000) : EvD K (tSl (rSlAny K) ta tl th) σ H (.str (cutS a lo hi)) := fun H1 e Q q =>
  h H1 e _ fun v H2 e2 hv => h1 H2 (ex_tr e e2) _ fun H3 e3 => h2 H3 (ex_tr e (ex_tr e2 e3)) _ fun H4 e4 => by
    obtain rfl := dp_str hv
    exact .inr (.inr ⟨a, rfl, Evl.sz_of hz, q _ H4 (ex_tr e2 (ex_tr e3 e4)) (.str _)⟩)
theorem rd_ixS {i : Int} {n c : Nat} (hi : i = (n : Int)) (hc : (tl a)[n]? = some c) (hz : a.length ≤ 100000) : RD K (rIx K) (.str a) (.int i) (.str ⟨#[c]⟩) := fun x y H hx hy Q q => by
  cases hx; cases hy
  subst hi
  refine .inr (.inr ⟨a, n, c, rfl, rfl, Evl.sz_of hz, ?_, q _ H ex_refl (.str _)⟩)
  exact atI_nat hc
theorem tl_cut_to {n : Nat} : tl (cutS a none (some (n : Int))) = (tl a).take n := by
  unfold cutS
  show (List.take _ (List.drop _ _)) = _
  rw [HT.sIx_none, HT.sIx_nat, Nat.sub_zero, List.drop_zero]
  rw [len_tl]
  by_cases h : n ≤ (tl a).length
  · rw [Nat.min_eq_left h]
  · rw [Nat.min_eq_right (by omega), List.take_length, List.take_of_length_le (by omega)]
theorem tl_cut_from {n : Nat} : tl (cutS a (some (n : Int)) none) = (tl a).drop n := by
  unfold cutS
  show (List.take _ (List.drop _ _)) = _
  rw [HT.sIx_none, HT.sIx_nat, len_tl]
  by_cases h : n ≤ (tl a).length
  · rw [Nat.min_eq_left h, ← List.length_drop, List.take_length]
  · rw [Nat.min_eq_right (by omega)]
    rw [List.drop_eq_nil_of_le (Nat.le_refl _), List.drop_eq_nil_of_le (by omega : (tl a).length ≤ n), List.take_nil]
theorem str_ext_iff : a = b ↔ tl a = tl b := ⟨fun h => h ▸ rfl, ext_tl⟩
theorem eqv_str : PyData.eqv (.str a) (.str b) = decide (tl a = tl b) := by
  show (a == b) = _
  rw [Bool.eq_iff_iff, decide_eq_true_eq, beq_iff_eq, str_ext_iff]
theorem rd_eqS : RD K rEq (.str a) (.str b) (.bool (decide (tl a = tl b))) := fun x y H hx hy Q q => by
  cases hx; cases hy
  refine ⟨rfl, ?_⟩
  have e : decide (V.str a = V.str b) = decide (tl a = tl b) := by
    rw [dec_str, Bool.eq_iff_iff, decide_eq_true_eq, beq_iff_eq, str_ext_iff]
  rw [e]
  exact q _ H ex_refl (.bl _)
theorem rd_neS : RD K rNe (.str a) (.str b) (.bool (!decide (tl a = tl b))) := fun x y H hx hy Q q => by
  cases hx; cases hy
  refine ⟨rfl, ?_⟩
  have e : decide (V.str a = V.str b) = decide (tl a = tl b) := by
    rw [dec_str, Bool.eq_iff_iff, decide_eq_true_eq, beq_iff_eq, str_ext_iff]
  rw [e]
  exact q _ H ex_refl (.bl _)
theorem find_fig {z : Str} (hz : tl z = [48, 49, 50, 51, 52, 53, 54, 55, 56, 57]) (c : Nat) : Txt.find z ⟨#[c]⟩ = if digit c = true then (c : Int) - 48 else -1 := by
  have ez : z = ⟨#[48, 49, 50, 51, 52, 53, 54, 55, 56, 57]⟩ := ext_tl hz
  subst ez
  by_cases h : digit c = true
  · rw [if_pos h]
    unfold digit at h
    simp at h
    obtain ⟨d, rfl⟩ : ∃ d, c = 48 + d := ⟨c - 48, by omega⟩
    have hd : d < 10 := by omega
    clear h hz
    revert d
    decide +kernel
  · rw [if_neg h]
    have f := PySem.StrLaws.found_one (⟨#[48, 49, 50, 51, 52, 53, 54, 55, 56, 57]⟩ : Str) c
    have n : decide (c ∈ (⟨#[48, 49, 50, 51, 52, 53, 54, 55, 56, 57]⟩ : Str).cps.toList) = false := by
      apply decide_eq_false
      intro hm
      apply h
      unfold digit
      simp at hm
      simp
      omega
    rw [n] at f
    unfold Txt.find
    split
    · rename_i e
      rw [e] at f
      simp at f
    · rfl
theorem dv_snoc {l : List Nat} {c : Nat} : digitsVal (l ++ [c]) = digitsVal l * 10 + (c - 48) := by
  unfold digitsVal
  rw [List.foldl_append]
  rfl
end
theorem FnOk.calm {P : Program} {w : World} {K : PySem.W.Frag} {mg : Str → Option Value} {base : Heap} {k : Nat} {f : Addr} {fd : FuncData} {ps : List Str} {sp : Sp} (F : FnOk P w K mg base (L2.CX P w) k f fd ps sp) : FnOk P w K mg base CX0 k f fd ps (fun vs H Q _ => sp vs H Q E0) :=
  ⟨fun vs H Q E h => F.len vs H Q E0 h, fun A outer s H args us vs Q E hr he hb hv hs => codeAny_mono (F.run A outer s H args us vs Q E0 hr he hb hv hs) fun r s' q => by
    cases r with
    | ok fl => cases fl <;> exact q
    | error e =>
      obtain ⟨_, _, _, _, _, _, _, _, _, _, _, _, hE⟩ := q
      exact hE.elim⟩
def spNumX (D : Addr) (K : PySem.W.Frag) : Sp := fun vs H Q E => ∃ z : Str, vs = [.str z] ∧ z.length ≤ 90000 ∧ (∀ n, numOf (tl z) = some n → ∀ H2, Ex H H2 → Q (.int n) H2) ∧ (numOf (tl z) = none → ∀ H2, Ex H H2 → E (.ref D) none H2)
def RNum (ds : List PyData) (d : PyData) : Prop := ∃ (z : Str) (n : Int), ds = [.str z] ∧ z.length ≤ 90000 ∧ numOf (tl z) = some n ∧ d = .int n
def strsOf (ls : List (List Nat)) : List Str := ls.map fun l => ⟨l.toArray⟩
theorem strs_back (ys : List Str) : strsOf (ys.map tl) = ys := by
  unfold strsOf
  rw [List.map_map]
  conv => rhs; rw [← List.map_id ys]
  exact List.map_congr_left fun y _ => mk_tl y
theorem split_words {a b : Str} (hb : tl b = [32]) : Txt.split a b = strsOf (wordsOf (tl a)) := by
  have e := split_spl a b (by rw [hb]; simp) (kind_ok (by
    have : b = ⟨#[32]⟩ := ext_tl hb
    rw [this]; decide +kernel))
  rw [hb] at e
  unfold wordsOf
  rw [← e, strs_back]
theorem split_rows {a b : Str} (hb : tl b = [10]) : Txt.split a b = strsOf (rowsOf (tl a)) := by
  have e := split_spl a b (by rw [hb]; simp) (kind_ok (by
    have : b = ⟨#[10]⟩ := ext_tl hb
    rw [this]; decide +kernel))
  rw [hb] at e
  unfold rowsOf
  rw [← e, strs_back]
theorem spl_len (S : List Nat) : ∀ (l acc : List Nat) (k : Nat), ∀ p ∈ spl S k acc l, p.length ≤ acc.length + l.length
  | [], acc, k, p, h => by
    rw [spl_nil] at h
    rw [List.mem_singleton.mp h]
    simp
  | c :: r, acc, k + 1, p, h => by
    have h' : p ∈ spl S k acc r := h
    have := spl_len S r acc k p h'
    simp
    omega
  | c :: r, acc, 0, p, h => by
    cases e : pre S (c :: r) with
    | true =>
      rw [spl_hit e] at h
      rcases List.mem_cons.mp h with rfl | h
      · simp
      · have := spl_len S r [] (S.length - 1) p h
        simp at this ⊢
        omega
    | false =>
      rw [spl_miss e] at h
      have := spl_len S r (acc ++ [c]) 0 p h
      simp at this ⊢
      omega
theorem spl_many (S : List Nat) : ∀ (l acc : List Nat) (k : Nat), (spl S k acc l).length ≤ l.length + 1
  | [], acc, k => by rw [spl_nil]; simp
  | c :: r, acc, k + 1 => by
    have h' : spl S (k + 1) acc (c :: r) = spl S k acc r := rfl
    rw [h']
    have := spl_many S r acc k
    simp
    omega
  | c :: r, acc, 0 => by
    cases e : pre S (c :: r) with
    | true =>
      rw [spl_hit e]
      have := spl_many S r [] (S.length - 1)
      simp
      omega
    | false =>
      rw [spl_miss e]
      have := spl_many S r (acc ++ [c]) 0
      simp
      omega
theorem spl_pos (S : List Nat) : ∀ (l acc : List Nat) (k : Nat), spl S k acc l ≠ []
  | [], acc, k => by rw [spl_nil]; simp
  | c :: r, acc, k + 1 => by
    have h' : spl S (k + 1) acc (c :: r) = spl S k acc r := rfl
    rw [h']
    exact spl_pos S r acc k
  | c :: r, acc, 0 => by
    cases e : pre S (c :: r) with
    | true => rw [spl_hit e]; simp
    | false => rw [spl_miss e]; exact spl_pos S r _ 0
end SF
namespace SF
open PySem PySem.Spec PyProof.Rows L2 TL NumText
abbrev txt (l : List Nat) : Str := ⟨l.toArray⟩
theorem tl_txt (l : List Nat) : tl (txt l) = l := rfl
theorem txt_tl (x : Str) : txt (tl x) = x := mk_tl x
theorem txt_len (l : List Nat) : (txt l).length = l.length := by rw [len_tl]
structure TOk (W : Nat) (S : List Pt) : Prop where
  w1 : 1 ≤ W
  w4 : W ≤ 4
  n6 : S.length ≤ 6
  len : ∀ p ∈ S, p.length = W
  bd : ∀ p ∈ S, ∀ x ∈ p, x.natAbs ≤ 1000000000000000
theorem TOk.fok {W : Nat} {S : List Pt} (h : TOk W S) : FOk W S := ⟨h.w1, h.w4, h.n6, fun k hk => by
  rw [List.getD_eq_getElem?_getD, List.getElem?_eq_getElem hk]
  exact h.len _ (List.getElem_mem hk)⟩
theorem numI_len {i : Int} (h : i.natAbs ≤ 1000000000000000) : (numI i).length ≤ 17 := by
  have : (numL i.natAbs).length ≤ 16 := numL_len (by decide) (by have : (10 : Nat) ^ 16 = 10000000000000000 := by decide
                                                                 omega)
  unfold numI
  split
  · simp; omega
  · omega
theorem sum_le {α : Type} {f : α → Nat} {b : Nat} : ∀ {l : List α}, (∀ x ∈ l, f x ≤ b) → (l.map f).sum ≤ l.length * b
  | [], _ => by simp
  | x :: l, h => by
    rw [List.map_cons, List.sum_cons, List.length_cons]
    have h1 := h x (List.mem_cons_self ..)
    have h2 := sum_le (l := l) fun y hy => h y (List.mem_cons_of_mem _ hy)
    have h3 : (l.length + 1) * b = l.length * b + b := by rw [Nat.add_mul, Nat.one_mul]
    omega
theorem joinL_len {s b : Nat} : ∀ {ps : List (List Nat)}, (∀ p ∈ ps, p.length ≤ b) → (joinL [s] ps).length ≤ ps.length * (b + 1)
  | [], _ => by simp [joinL]
  | [p], h => by
    show p.length ≤ _
    have := h p (by simp)
    simp
    omega
  | p :: q :: r, h => by
    show (p ++ ([s] ++ joinL [s] (q :: r))).length ≤ _
    have h1 := h p (by simp)
    have h2 := joinL_len (s := s) (ps := q :: r) fun z hz => h z (List.mem_cons_of_mem _ hz)
    simp only [List.length_append, List.length_cons, List.length_nil] at h2 ⊢
    have h3 : (r.length + 1 + 1) * (b + 1) = (r.length + 1) * (b + 1) + (b + 1) := by rw [Nat.add_mul (r.length + 1) 1, Nat.one_mul]
    omega
theorem TOk.row {W : Nat} {S : List Pt} (h : TOk W S) {p : Pt} (hp : p ∈ S) : (rowL p).length ≤ 100 := by
  have := joinL_len (s := 32) (ps := p.map numI) (b := 17) fun w hw => by
    obtain ⟨i, hi, rfl⟩ := List.mem_map.mp hw
    exact numI_len (h.bd p hp i hi)
  rw [List.length_map, h.len p hp] at this
  have w4 := h.w4
  have : W * (17 + 1) ≤ 4 * 18 := Nat.mul_le_mul w4 (Nat.le_refl _)
  unfold rowL
  omega
theorem headL_len {W : Nat} (h : W ≤ 4) : (headL W).length ≤ 100 := by
  have : (numL W).length ≤ 1 := numL_len (by decide) (by omega)
  unfold headL widL
  simp
  omega
theorem TOk.rows {W : Nat} {S : List Pt} (h : TOk W S) : ∀ r ∈ rowsL W S, r.length ≤ 100 := fun r hr => by
  unfold rowsL at hr
  rcases List.mem_cons.mp hr with rfl | hr
  · exact headL_len h.w4
  · obtain ⟨p, hp, rfl⟩ := List.mem_map.mp hr
    exact h.row hp
theorem TOk.text {W : Nat} {S : List Pt} (h : TOk W S) : (textL W S).length ≤ 1000 := by
  have := joinL_len (s := 10) h.rows
  have n6 := h.n6
  unfold rowsL at this
  simp only [List.length_cons, List.length_map] at this
  unfold textL rowsL
  have : (S.length + 1) * (100 + 1) ≤ 7 * 101 := Nat.mul_le_mul (by omega) (Nat.le_refl _)
  omega
theorem TOk.parse {W : Nat} {S : List Pt} (h : TOk W S) : parse (textL W S) = some (W, S) := parse_text h.w1 h.w4 h.n6 h.len h.bd
theorem join_txt {y : Str} {s : Nat} (hy : tl y = [s]) (ls : List (List Nat)) : Txt.join y (strsOf ls) = txt (joinL [s] ls) := by
  apply ext_tl
  rw [join_eq, tl_join, hy]
  unfold strsOf
  rw [List.map_map]
  have : (TL.tl ∘ fun l : List Nat => (⟨l.toArray⟩ : Str)) = id := rfl
  rw [this, List.map_id]
theorem strs_D (ls : List (List Nat)) : (strsOf ls).map PyData.str = ls.map fun l => PyData.str (txt l) := by
  unfold strsOf
  rw [List.map_map]
  rfl
theorem tupO_strs (ls : List (List Nat)) : tupOAll (ls.map fun l => PyData.str (txt l)) = true := tupOAll_map (fun _ => rfl) ls
section
variable {K : PySem.W.Frag} {σ : L2.St} {H : Hp} {C : Addr} {W : Nat} {S : List Pt} {j : Nat}
theorem eiv_steps {i : Nat} {a : Addr} (F : FCls K C) (hf : FieldAt C K H a W S) (h : σ[i]? = some (some (.ref a))) : EvIv (iLT K (tFld K (tVar i) "steps")) (gName j) σ H S.length (B1 K j (S.map ptD)) := fun H1 e R q => by
  obtain ⟨dx, l, xs, h1, h2, h3⟩ := hf
  have d : Dd K H (.ref l) (.list (S.map ptD)) := .lst (SqL.of h2) h3
  have q' := q (Itl K l) H1 (fun H => Dd K H (.ref l) (.list (S.map ptD))) ex_refl (fun H3 e3 => d.up e3)
  rw [← List.length_map (f := ptD)] at q'
  exact ⟨_, h, a, C, dx, _, _, rfl, e a _ h1, F.cl, F.nS, fFlds_s _ _, l, rfl, .inl ⟨⟨xs, SqL.of (e l _ h2)⟩, q' feeds_list⟩⟩
end
theorem ev_rowS {K : PySem.W.Frag} {σ : L2.St} {H : Hp} {y : Str} {ta : TE} {wi : TI} {ni : Nat} {p : Pt} (hy : tl y = [32]) (hp : p.length ≤ 100) (hb : ∀ x ∈ p, x.natAbs ≤ 1000000000000000)
    (hi : EvI wi (gName ni) σ H p.length (B1 K ni (p.map .int))) (hw : ∀ x, wipe ((wipe σ [ni]).set ni (some x)) [ni] = wipe σ [ni]) (hg : ∀ x, ((wipe σ [ni]).set ni (some x))[ni]? = some (some x)) :
    EvD K (tM1 (rJoin K) (tC (.str y)) (tLc wi (gName ni) tYes (tCB rStrI (tCons (tVar ni) tNil)) [ni])) σ H (.str (txt (rowL p))) := by
  have hl : EvF K (tLc wi (gName ni) tYes (tCB rStrI (tCons (tVar ni) tNil)) [ni]) σ H ((strsOf (p.map numI)).map .str) :=
    EvF.to (ef_lc1 (fun i => .str (txt (numI (p.getD i 0)))) hi (by omega) (hwB1 hw) (by
      rintro i H' σ' e hi' ⟨u, d, hd, hu, rfl⟩
      obtain ⟨n, en, rfl⟩ := pt_at hd hu
      have eg : p.getD i 0 = n := by rw [List.getD_eq_getElem?_getD, en]; rfl
      refine ⟨?_, rfl⟩
      have hm : n ∈ p := List.mem_of_getElem? en
      refine EvD.to (ev_cb (ea_cons (ev_varI (hg _)) ea_nil) (rc_str (by have := hb n hm; omega))) ?_
      rw [eg]
      congr 1
      apply ext_tl
      rw [tl_int])) (by
      rw [strs_D, List.map_map]
      refine range_map_eq rfl fun i hi' => ?_
      rw [List.getD_eq_getElem?_getD, List.getElem?_eq_getElem hi']
      rfl)
  refine EvD.to (ev_join ev_cS hl.dd ?_) ?_
  · have b1 : ((strsOf (p.map numI)).map (·.length)).sum ≤ (strsOf (p.map numI)).length * 17 := sum_le fun z hz => by
      unfold strsOf at hz
      obtain ⟨w, hw', rfl⟩ := List.mem_map.mp hz
      obtain ⟨i, hi', rfl⟩ := List.mem_map.mp hw'
      rw [txt_len]
      exact numI_len (hb i hi')
    have n1 : (strsOf (p.map numI)).length = p.length := by simp [strsOf]
    have y1 : y.length = 1 := by rw [len_tl, hy]; rfl
    rw [n1] at b1 ⊢
    rw [y1]
    omega
  · rw [join_txt hy]
    rfl
theorem ev_headS {K : PySem.W.Frag} {σ : L2.St} {H : Hp} {y : Str} {ta : TE} {W : Nat} (hy : tl y = widL ++ [32]) (hW : W ≤ 4) (h : EvD K ta σ H (.int (W : Int))) :
    EvD K (tOp (rAddA K) (tC (.str y)) (tCB rStrI (tCons ta tNil))) σ H (.str (txt (headL W))) := by
  have l1 : y.length ≤ 10 := by rw [len_tl, hy]; decide
  have hn : (Str.ofString (toString (W : Int))).length ≤ 1 := by rw [len_tl, tl_num]; exact numL_len (by decide) (by omega)
  refine EvD.to (ev_op ev_cS (ev_cb (ea_cons h ea_nil) (rc_str (by omega))) (rd_addS (by omega))) ?_
  congr 1
  apply ext_tl
  rw [tl_append, hy, tl_num]
  rfl
theorem ev_textS {K : PySem.W.Frag} {σ : L2.St} {H : Hp} {y : Str} {ta : TE} {W : Nat} {S : List Pt} (hy : tl y = [10]) (ok : TOk W S) (h : EvD K ta σ H (.list ((rowsL W S).map fun l => PyData.str (txt l)))) :
    EvD K (tM1 (rJoin K) (tC (.str y)) ta) σ H (.str (txt (textL W S))) := by
  rw [← strs_D] at h
  refine EvD.to (ev_join ev_cS h ?_) ?_
  · have b1 : ((strsOf (rowsL W S)).map (·.length)).sum ≤ (strsOf (rowsL W S)).length * 100 := sum_le fun z hz => by
      unfold strsOf at hz
      obtain ⟨w, hw', rfl⟩ := List.mem_map.mp hz
      rw [txt_len]
      exact ok.rows w hw'
    have n1 : (strsOf (rowsL W S)).length = S.length + 1 := by simp [strsOf, rowsL]
    have y1 : y.length = 1 := by rw [len_tl, hy]; rfl
    have n6 := ok.n6
    rw [n1] at b1 ⊢
    rw [y1]
    omega
  · rw [join_txt hy]
    rfl
def spShown (C : Addr) (K : PySem.W.Frag) : Sp := fun vs H Q _ => ∃ a W S, vs = [.ref a] ∧ FieldAt C K H a W S ∧ TOk W S ∧ ∀ H2, Ex H H2 → Q (.str (txt (textL W S))) H2
def RText (ds : List PyData) (d : PyData) : Prop := ∃ (W : Nat) (S : List Pt), ds = [.int (W : Int), .list (S.map ptD)] ∧ TOk W S ∧ d = .str (txt (textL W S))
def spReadX (C D : Addr) (K : PySem.W.Frag) : Sp := fun vs H Q E => ∃ z : Str, vs = [.str z] ∧ z.length ≤ 80000 ∧
  (∀ W S, parse (tl z) = some (W, S) → ∀ a H2, H a = none → Ex H H2 → FieldAt C K H2 a W S → Q (.ref a) H2) ∧ (parse (tl z) = none → ∀ H2, Ex H H2 → E (.ref D) none H2)
def spRead (C : Addr) (K : PySem.W.Frag) : Sp := fun vs H Q _ => ∃ (z : Str) (W : Nat) (S : List Pt), vs = [.str z] ∧ z.length ≤ 80000 ∧ parse (tl z) = some (W, S) ∧ ∀ a H2, H a = none → Ex H H2 → FieldAt C K H2 a W S → Q (.ref a) H2
def RBack (C : Addr) (K : PySem.W.Frag) : Sp := fun vs H Q _ => ∃ (W : Nat) (x : V) (S : List Pt), vs = [.int (W : Int), x] ∧ Dd K H x (.list (S.map ptD)) ∧ TOk W S ∧ ∀ H2, Ex H H2 → Q (.bl true) H2
end SF
namespace SF
open PySem PySem.Spec PyProof.Rows L2 TL NumText
structure LStepsG (W most : Nat) (great : Bool) (S : List Pt) : Prop where
  s : LSteps W most great S
  g : great = true → ∀ k, k < S.length → ∀ z ∈ S.getD k [], z.natAbs ≤ 1000000000000000
theorem LStepsG.tok {W most : Nat} {great : Bool} {S : List Pt} (h : LStepsG W most great S) (w1 : 1 ≤ W) (w4 : W ≤ 4) (n6 : most ≤ 6) : TOk W S := by
  have at_ : ∀ p ∈ S, ∃ k, k < S.length ∧ S.getD k [] = p := fun p hp => by
    obtain ⟨k, hk, rfl⟩ := List.mem_iff_getElem.mp hp
    exact ⟨k, hk, by rw [List.getD_eq_getElem?_getD, List.getElem?_eq_getElem hk]; rfl⟩
  have hn := h.s.n
  refine ⟨w1, w4, by omega, fun p hp => ?_, fun p hp x hx => ?_⟩
  · obtain ⟨k, hk, rfl⟩ := at_ p hp
    exact h.s.len k hk
  · obtain ⟨k, hk, rfl⟩ := at_ p hp
    cases great with
    | true => exact h.g rfl k hk x hx
    | false =>
      have b := h.s.bd k hk x hx
      simp only [Bool.false_eq_true, if_false] at b
      have : 2 ^ (5 + 2 * k) ≤ 2 ^ 20 := Nat.pow_le_pow_right (by decide) (by omega)
      have e : (2 : Nat) ^ 20 = 1048576 := by decide
      omega
def spStepsG (K : PySem.W.Frag) : Sp := fun vs H Q _ => ∃ (x : V) (sp : Addr) (ns : List Int) (p W most : Nat) (great : Bool), vs = [x, .ref sp, .int (W : Int), .int (most : Int), .bl great] ∧ Scr K H x ns ∧ ns.length ≤ 1000 ∧ H sp = some (.lst [.int (p : Int)]) ∧ W ≤ 100 ∧ most ≤ 100 ∧
  ∀ (l : Addr) (xs : List V) (S : List Pt) (H' : Hp) (p' : Nat), H l = none → Ex1 sp H H' → H' sp = some (.lst [.int (p' : Int)]) → H' l = some (.lst xs) → DdAll K H' xs (S.map ptD) → LStepsG W most great S → Q (.ref l) H'
section
variable {K : PySem.W.Frag} {σ : L2.St} {H : Hp} {E : XK}
theorem er_stepsGV {x : V} {ns : List Int} {ix io W most p : Nat} {sp : Addr} {great : Bool} {tw tm tg : TE} (hx : Scr K H x ns) (hn : ns.length ≤ 1000) (h1 : σ[ix]? = some (some x)) (ho : σ[io]? = some (some (.ref sp))) (hs : H sp = some (.lst [.int (p : Int)])) (hr : EvDs K (tCons tw (tCons tm (tCons tg tNil))) σ H [.int (W : Int), .int (most : Int), .bool great]) (hW : W ≤ 100) (hm : most ≤ 100) :
    EvR (tCall (spStepsG K) [] E (tCons (tVar ix) (tCons (tVar io) (tCons tw (tCons tm (tCons tg tNil)))))) σ H (fun v H' => ∃ l xs S p', v = .ref l ∧ Ex1 sp H H' ∧ H' sp = some (.lst [.int ((p' : Nat) : Int)]) ∧ H l = none ∧ H' l = some (.lst xs) ∧ DdAll K H' xs (S.map ptD) ∧ LStepsG W most great S) := fun Q q => by
  refine ⟨x, h1, _, ho, ?_⟩
  refine hr _ ex_refl _ fun vs H2 e2 hv => ?_
  obtain ⟨a, b, c, rfl, ha, hb, hc⟩ := dd3 hv
  obtain rfl := dp_int ha
  obtain rfl := dp_int hb
  obtain rfl := dp_bl hc
  refine ⟨x, sp, ns, p, W, most, great, rfl, hx.up e2, hn, e2 sp _ hs, hW, hm, fun l xs S H' p' hl e3 h3 hl' hd hS => ?_⟩
  exact q _ _ ⟨l, xs, S, p', rfl, ex1_tr (ex1_of e2) e3, h3, ex_back e2 hl, hl', hd, hS⟩
theorem er_stepsGZ {x : V} {ns : List Int} {ix W most p : Nat} {z : Int} {great : Bool} {tw tm tg : TE} (hz : z = (p : Int)) (hx : Scr K H x ns) (hn : ns.length ≤ 1000) (h1 : σ[ix]? = some (some x)) (hr : EvDs K (tCons tw (tCons tm (tCons tg tNil))) σ H [.int (W : Int), .int (most : Int), .bool great]) (hW : W ≤ 100) (hm : most ≤ 100) :
    EvR (tCall (spStepsG K) [] E (tCons (tVar ix) (tCons (tLst (tCons (tC (.int z)) tNil)) (tCons tw (tCons tm (tCons tg tNil)))))) σ H (fun v H' => ∃ l xs S, v = .ref l ∧ Ex H H' ∧ H l = none ∧ H' l = some (.lst xs) ∧ DdAll K H' xs (S.map ptD) ∧ LStepsG W most great S) := fun Q q => by
  subst hz
  refine ⟨x, h1, ?_⟩
  refine ⟨Evl.sz_of (by simp), fun sp hsp => ?_⟩
  have e1 : Ex H (upd H sp (.lst [.int (p : Int)])) := ex_new hsp
  refine hr _ e1 _ fun vs H2 e2 hv => ?_
  obtain ⟨a, b, c, rfl, ha, hb, hc⟩ := dd3 hv
  obtain rfl := dp_int ha
  obtain rfl := dp_int hb
  obtain rfl := dp_bl hc
  have h2 : H2 sp = some (.lst [.int (p : Int)]) := e2 sp _ upd_same
  refine ⟨x, sp, ns, p, W, most, great, rfl, hx.up (ex_tr e1 e2), hn, h2, hW, hm, fun l xs S H' p' hl e3 h3 hl' hd hS => ?_⟩
  refine q _ _ ⟨l, xs, S, rfl, fun b o hb => ?_, ex_back (ex_tr e1 e2) hl, hl', hd, hS⟩
  exact e3 b o ((ex_tr e1 e2) b o hb) (by rintro rfl; rw [hsp] at hb; cases hb)
end
end SF
namespace SF
open PySem PySem.Spec PyProof.Rows L2 PySem.HandSPX
section
variable {X : Cx} {pins : List (Addr × Obj)} {σ : L2.St} {Hc : Hp} {sc : Shared} {W : WX} {scope : Scope} {ce : Env} {fp : List Addr}
abbrev noteX (X : Cx) (ce : Env) : Value → Shared → Prop := notedBy (model X.prog X.w) X.A ce (CompFails (model X.prog X.w) X.A X.xe ce)
theorem traced_one {h b1 b2 : Heap} {e : Addr} {Z1 Z2 : Obj → Prop} {f1 f2 : Value} (x : TracedZ h b1 e Z1 f1) (y : TracedZ h b2 e Z2 f2) : f1 = f2 := by
  obtain ⟨o, vs, T, oT, ts, p1, _, p2, p3, _, _, p4, p5, p6⟩ := x
  obtain ⟨o', vs', T', oT', ts', q1, _, q2, q3, _, _, q4, q5, q6⟩ := y
  rw [p1] at q1; cases q1
  rw [p2] at q2; cases q2
  rw [p3] at q3; cases q3
  rw [p4] at q4; cases q4
  rw [p5] at q5; cases q5
  rw [p6] at q6
  exact Option.some.inj q6
theorem hidden {h : Heap} {c b : Addr} {o : Obj} (e : (PySem.W.hideAll h [c]).get? b = some o) : h.get? b = some o ∧ b ≠ c := by
  refine ⟨PySem.W.of_hideAll _ e, ?_⟩
  rintro rfl
  rw [PySem.W.hideAll_none _ (List.mem_singleton.mpr rfl)] at e
  cases e
theorem shown_still {h : Heap} {c b : Addr} {o : Obj} (e : h.get? b = some o) (n : b ≠ c) : (PySem.W.hideAll h [c]).get? b = some o :=
  PySem.W.hideAll_get _ e fun q => n (List.mem_singleton.mp q)
theorem hidden_none {h : Heap} {c b : Addr} (e : h.get? b = none) : (PySem.W.hideAll h [c]).get? b = none := by
  cases q : (PySem.W.hideAll h [c]).get? b with
  | none => rfl
  | some o => rw [(hidden q).1] at e; cases e
theorem blk_pass (hs0 : X.stack = X.env :: X.outer) (hf0 : X.env.frame = some X.env.locals) (tk : Takes X W) (Ic : Inv X pins σ Hc sc) (cL : ce.locals = sc.heap.objs.size) (cF : ce.frame = X.env.frame)
    (ffp : ∀ b ∈ fp, FpOk X pins Hc b) (σ' : L2.St) : PassesAt (L2.CX X.prog X.w) ((X.blk sc Hc scope ce fp).wish (noteX X ce)) σ' (fun cls d H' => W cls d σ H') := by
  intro pb Hb sb u s' Ib c
  have air := XE.of_call (W := fun cls d _ H' => W cls d σ H') Ib (fun _ _ _ h => h) c
  obtain ⟨a, B0, H0, cls0, d0, rfl, fl0, _⟩ := c
  obtain ⟨a', B, sI, pb', σb, H', cls, d, ea, J, nb, up, sky, na, os, ag, hW⟩ := air
  obtain rfl : a = a' := by injection ea
  have hst : ((X.blk sc Hc scope ce fp).wish (noteX X ce)).stack = X.env :: X.outer := hs0
  rw [hst] at sky
  have fl : FlyingZ B (X.env :: X.outer) a (Zc cls d) s'.heap := by
    rcases sky with ⟨_, _, _, oe, vs, r1, _, r2, r3⟩ | fl | hh
    · exfalso
      obtain ⟨_, _, _, oe', vs', T, _, _, q1, _, q2, q3, _⟩ := fl0
      rw [r1] at q1; cases q1
      rw [r2] at q2; cases q2
      rw [r3] at q3; cases q3
    · exact fl
    · exfalso
      have z := traced_one hh.2.2.2 fl0.2.2.2
      simp [rawInt] at z
  have below : ∀ {b : Addr} {o : Obj}, sc.heap.get? b = some o → b ≠ ce.locals := fun e z => by
    have q := Heap.lt_size e
    rw [z, cL] at q
    exact absurd q (Nat.lt_irrefl _)
  show wpAny _ _ (noteFrame (.ref a) ce) _ _ _
  rw [noteFrame_env _ cF]
  refine looks_onZ Zc.steady (by rw [show X.A.frames = some ((X.blk sc Hc scope ce fp).wish (noteX X ce)).stack from J.ok.frames, hst]) hf0 fl fun h' hh up' => ?_
  obtain ⟨m, hn0, _⟩ := J.loc
  have hn0 : sI.heap.Ns ce.locals m := hn0
  have hn : h'.Ns ce.locals m := (hn0.upToSlots up).upToSlots up'
  refine ⟨m, hn, fun h2 m2 hn2 hs2 => ?_⟩
  obtain ⟨k1, k2, k3, oe, vs, T, oT, ts, p1, pz, p2, p3, pn, pe, p4, p5, p6⟩ := id hh
  obtain ⟨oC, eC, pC, hoC, hdC, _⟩ := id hn
  have notC : ∀ {b : Addr} {o : Obj} {ws : Array Value}, h'.get? b = some o → o.data = .fields ws → b ≠ ce.locals := fun {b o ws} e dd z => by
    rw [z, hoC] at e
    cases e
    rw [hdC] at dd
    cases dd
  have to2 : ∀ {b : Addr} {o : Obj}, h'.get? b = some o → b ≠ ce.locals → h2.get? b = some o := fun e n => (hs2.2 _ n).trans e
  have held2 : HeldZ (PySem.W.hideAll B [ce.locals]) (X.env :: X.outer) a (Zc cls d) X.env.locals h2 := by
    refine ⟨fun b o e => to2 (k1 b o (hidden e).1) (hidden e).2, hidden_none k2, ?_, oe, vs, T, oT, ts, to2 p1 (notC p1 p2), pz, p2, p3, hidden_none pn, pe, to2 p4 (notC p4 p5), p5, p6⟩
    exact funFrames_none (Heap.FunFrames.sameBut hs2 hn2 k3) fun L hL => by
      refine hidden_none ?_
      exact (k3.mem hL).1
  unfold PySem.passOn
  refine wpAny_bind (wpAny_field (to2 p1 (notC p1 p2)) p2 p3 ?_)
  rw [if_neg (show ¬ ((Value.ref T == Value.none) = true) from by simp), cF, hf0]
  refine wpAny_bind (setFlight_onZ held2 fun h3 hh3 up3 => wpAny_throw (tk _ _ ?_))
  have base' : Un (frs X.stack) fp Hc H' sc.heap sI.heap := J.base
  have hokI : HOk X.prog X.w H' (PySem.W.hideAll sI.heap [ce.locals]) := fun b o q =>
    (J.hok b o q).stay (fun c u hc r => shown_still r fun z => by
      have free : H' ce.locals = none := J.free
      rcases hc with hc | hc
      · rw [hc] at z; rw [z, free] at q; cases q
      · rw [z, free] at hc; cases hc) (fun _ r => r) fun _ _ r => r
  refine ⟨a, _, { sI with heap := PySem.W.hideAll sI.heap [ce.locals] }, pins, σ, H', cls, d, rfl, ?_, fun b o e hb => shown_still (nb b o (hidden e).1 hb) (hidden e).2, ?_, .inr (.inr (by rw [hs0]; exact hh3)), na, os, ag, hW⟩
  · refine Ic.call' (ch := fp) J.os ⟨fun b o e n hb hx => shown_still (base'.keep b o e n hb hx) (below e), fun b o e n hb hx => ?_, base'.free, fun b o e hx => ?_, base'.tups, base'.frzs, base'.tbls⟩ hokI J.bare fun b hb => ⟨(ffp b hb).2.2.2.1, (ffp b hb).2.1, (ffp b hb).2.2.2.2.1, (ffp b hb).2.2.2.2.2⟩
    · obtain ⟨sl, q⟩ := base'.slot b o e n hb hx
      exact ⟨sl, shown_still q (below e)⟩
    · obtain ⟨o', q⟩ := base'.there b o e hx
      exact ⟨o', shown_still q (below e)⟩
  · refine Heap.UpToSlots.trans (h₂ := h2) (fun b o e dd => ?_) up3
    obtain ⟨e1, n1⟩ := hidden e
    obtain ⟨sl, q1⟩ := up b o e1 dd
    obtain ⟨sl2, q2⟩ := up' b _ q1 dd
    exact ⟨sl2, to2 q2 n1⟩
end
end SF
namespace SF
open PySem PySem.Spec PyProof.Rows L2 PySem.HandSPX
section
variable {X : Cx} {W : WX}
theorem pe_lcX {elt tg iter : Expr} {ifs : List Expr} {scope : Scope} {own : List (Str × Nat)} {pos : Pos} {wi : TI} {g : TG} {tt : TT} {te : XK → TE} (hs0 : X.stack = X.env :: X.outer) (hf0 : X.env.frame = some X.env.locals) (tk : Takes X W)
    (hc : X.calm = true) (hN : X.N.Nodup) (hi : PI X tg iter wi) (ok : BlkOk X.N X.env.scope scope own)
    (hg : ∀ (t : Shared) (G : Hp) (C : Addr) (cl : List (Str × Addr)) (fp : List Addr), PG (X.blk t G scope (compEnvC scope cl C X.env) fp) tg g)
    (ht : ∀ (t : Shared) (G : Hp) (C : Addr) (cl : List (Str × Addr)) (fp : List Addr), PTs (X.blk t G scope (compEnvC scope cl C X.env) fp) ifs tt)
    (he : ∀ (t : Shared) (G : Hp) (C : Addr) (cl : List (Str × Addr)) (fp : List Addr) (xe : Value → Shared → Prop) (E : XK),
      (∀ σ, PassesAt (L2.CX X.prog X.w) ((X.blk t G scope (compEnvC scope cl C X.env) fp).wish xe) σ E) → PE ((X.blk t G scope (compEnvC scope cl C X.env) fp).wish xe) elt (te E))
    (hs : ∀ x, foldedSetIterable iter X.env x = pure x := by intro _; rfl) :
    PE X (.ListComp elt [⟨tg, iter, ifs, 0⟩] scope pos) (fun σ H Q => tLc wi g tt (te fun cls d H' => W cls d σ H') (own.map (·.2)) σ H Q) := by
  refine ⟨fun pins s σ H Q I asked => ?_⟩
  rw [eval_ListComp]
  have cells : ∀ y ∈ scope.names, y.2 = .free → ∃ c, X.env.cells.lookup y.1 = some c := fun y hy e => I.ok.has _ (by
    rcases ok.free y hy e with k | k
    · exact .inl k
    · exact .inr k)
  refine comprehension_at (use := none) rfl hs (closure_ok cells) ok.kind (fun y hy e => (ok.uniq y hy).trans (by rw [e])) ?_
  refine thn (hi.run pins s σ H _ I asked) fun xv t1 hx => thn hx fun itv t2 ⟨it, fp, tn, J, H2, eit, I2, T, st2, f2, q⟩ => ?_
  subst eit
  refine wpAny_newObj_type (newEnv_comp ?_) (by show 0 ≤ sizeLine; decide)
  generalize eD : t2.heap.objs.size = D
  have newD : H2 D = none := I2.hok.fresh (Nat.le_of_eq eD)
  obtain ⟨Wn, ⟨m0, w0⟩, turns⟩ := q D newD
  obtain ⟨t3, e3⟩ : ∃ t3 : Shared, t3 = { t2 with heap := t2.heap.push { cls := .type "list", data := .seq ([] : List Value).toArray } } := ⟨_, rfl⟩
  have hp3 : t3.heap = t2.heap.push { cls := .type "list", data := .seq ([] : List Value).toArray } := by rw [e3]
  have I3 : Inv X pins σ (upd H2 D (.lst [])) t3 := by
    rw [e3]
    exact I2.laid (t' := t2.toks) (fun b o e => Heap.get?_push_of_some _ e) (Nat.le_of_eq eD) ⟨Nat.zero_le _, [], 0, .nil, by
      rw [← eD]
      exact Heap.get?_push_size _ rfl⟩
  have lts : ∀ b ∈ fp, b < t2.heap.objs.size := fun b hb => Heap.lt_size (T.obj _ _ st2 b hb).choose_spec.1
  have f3 : ∀ b ∈ fp, FpOk X pins (upd H2 D (.lst [])) b ∧ b < t3.heap.objs.size := fun b hb => by
    have l2 := lts b hb
    have nD : b ≠ D := by rw [← eD]; exact Nat.ne_of_lt l2
    refine ⟨⟨(upd_ne nD).trans (f2 b hb).1, (f2 b hb).2⟩, ?_⟩
    rw [hp3, Heap.size_push]
    exact Nat.lt_succ_of_lt l2
  have st3 : tn 0 t3.heap := T.keep _ _ _ st2 fun b _ o e => hp3 ▸ Heap.get?_push_of_some _ e
  have I4 := block_start I3 ok hN f3
  have pass := fun ce cL cF σ' => blk_pass (scope := scope) (ce := ce) (fp := fp) hs0 hf0 tk I3 cL cF (fun b hb => (f3 b hb).1) σ'
  have pg := hg t3 (upd H2 D (.lst [])) t3.heap.objs.size (cellsFrom (t3.heap.objs.size + 1) scope.names (cloFrom X.env.cells scope.names [])) fp
  have pt := ht t3 (upd H2 D (.lst [])) t3.heap.objs.size (cellsFrom (t3.heap.objs.size + 1) scope.names (cloFrom X.env.cells scope.names [])) fp
  have pe := fun xe => he t3 (upd H2 D (.lst [])) t3.heap.objs.size (cellsFrom (t3.heap.objs.size + 1) scope.names (cloFrom X.env.cells scope.names [])) fp xe
  rw [← e3]
  show codeAny _ _ (.compStart _ 0 (.ref it) (.ref D) (compEnvC scope (cellsFrom (t3.heap.objs.size + 1) scope.names (cloFrom X.env.cells scope.names [])) t3.heap.objs.size X.env)) (compEnds _ _ _ none _ _ (compEnvC scope (cellsFrom (t3.heap.objs.size + 1) scope.names (cloFrom X.env.cells scope.names [])) t3.heap.objs.size X.env)) _
  have none3 : ∀ b ∈ fp, (upd H2 D (.lst [])) b = none := fun b hb => (f3 b hb).1.1
  generalize eC : compEnvC scope (cellsFrom (t3.heap.objs.size + 1) scope.names (cloFrom X.env.cells scope.names [])) t3.heap.objs.size X.env = ce at I4 pg pt pe ⊢
  have cL : ce.locals = t3.heap.objs.size := by subst eC; rfl
  have cF : ce.frame = X.env.frame := by subst eC; rfl
  have pe' := pe (noteX X ce) (fun cls d H' => W cls d σ H') (pass ce cL cF)
  clear pe pass
  generalize upd H2 D (.lst []) = H3 at I3 I4 pg pt pe' w0 none3 f3
  obtain ⟨t4, e4⟩ : ∃ t4 : Shared, t4 = { t3 with heap := pushCells (t3.heap.push { cls := .type "dict", data := .dict #[] }) scope.names } := ⟨_, rfl⟩
  rw [← e4] at I4 ⊢
  have st4 : tn 0 t4.heap := T.keep _ _ _ st3 fun b _ o e => by rw [e4]; exact pushCells_keeps _ _ _ _ (Heap.get?_push_of_some _ e)
  have feet : ∀ {σ' : L2.St} {H' : Hp} {s' : Shared}, Inv (X.blk t3 H3 scope ce fp) [] σ' H' s' → (∀ b ∈ fp, H' b = none) → ∀ b ∈ fp, FpOk (X.blk t3 H3 scope ce fp) [] H' b := fun {σ' H' s'} J' hn b hb =>
    ⟨hn b hb, (J'.ok.exf b hb).1, J'.ok.exfs b hb, .inl hb, (J'.ok.exf b hb).2, fun p hp => absurd hp (by simp)⟩
  have loop : codeAny (model X.prog X.w) X.A (.compLoop (.ListComp elt [⟨tg, iter, ifs, 0⟩] scope pos) 0 (.ref it) (.ref D) ce) (compEnds (model X.prog X.w) X.A X.xe none (EP X pins σ Q) (.ref D) ce) t4 := by
    refine compLoop_any (fun n s' => ∃ i G, Inv (X.blk t3 H3 scope ce fp) [] (wipe σ (own.map (·.2))) G s' ∧ tn i s'.heap ∧ (∀ b ∈ fp, G b = none) ∧ Wn i n G) ?_ m0 ⟨0, H3, I4, st4, none3, w0⟩
    rintro n t5 ⟨i, H5, I5, st5, n5, w5⟩
    rcases turns i n H5 w5 with ⟨stop, goal⟩ | ⟨go, Nx, next, step⟩
    · -- no item more
      refine thnF (T.done (X.blk t3 H3 scope ce fp) rfl rfl rfl hc i [] t5 _ H5 (fun _ _ => False) I5 (feet I5 n5) st5 stop) fun r t6 ⟨hr, I6⟩ => ?_
      subst hr
      have I7 : Inv X pins σ H5 t6 := I3.call' (ch := fp) I6.os I6.base I6.hok I6.bare fun b hb => let z := (f3 b hb).1.2; ⟨z.2.2.1, z.1, z.2.2.2.1, z.2.2.2.2⟩
      have freeC : H5 t3.heap.objs.size = none := cL ▸ (show H5 ce.locals = none from I6.free)
      obtain ⟨m, hn, _⟩ := I6.loc
      refine ⟨m, hn, fun h'' sb => ?_⟩
      obtain ⟨g0, g1, g2, g3, g4, g5⟩ := I3.fpOk (H' := H5) (Nat.le_refl _) freeC
      rw [cL] at sb
      exact ⟨.ref D, H5, I7.turned (t' := t6.toks) (fun b o hb e => (sb.2 b hb).trans e) g0 g1 g3 g4 g5, rfl, goal⟩
    · refine thnF (T.item (X.blk t3 H3 scope ce fp) rfl rfl rfl hc i [] t5 _ H5 (fun _ _ => False) I5 (feet I5 n5) st5 go) fun r t6 ⟨u, hr, h6⟩ => ?_
      subst hr
      refine thnF h6 fun _ t7 ⟨x, H7, I7, r7, y7, st7, n7⟩ => ?_
      refine thnF (pg.run _ t7 _ H7 x u _ (I7.pinned (feet I7 n7) (T.obj _ _ st7)) r7 (step x H7 y7)) fun _ t8 ⟨σ8, H8, I8, hw8, q8⟩ => ?_
      refine thnF (pt.run _ t8 σ8 H8 _ I8 q8) fun b t9 ⟨H9, I9, q9⟩ => ?_
      have turned : ∀ {s' : Shared} {H' : Hp}, Inv (X.blk t3 H3 scope ce fp) ([] ++ pinsAt fp t7.heap) σ8 H' s' → Nx H' →
          ∃ m, m < n ∧ ∃ i G, Inv (X.blk t3 H3 scope ce fp) [] (wipe σ (own.map (·.2))) G s' ∧ tn i s'.heap ∧ (∀ b ∈ fp, G b = none) ∧ Wn i m G := fun {s' H'} J' nx => by
        obtain ⟨m', hm, w'⟩ := next H' nx
        have there : ∀ b ∈ fp, ∀ o, t7.heap.get? b = some o → s'.heap.get? b = some o ∧ H' b = none := fun b hb o e => by
          obtain ⟨z1, z2, _⟩ := J'.pin (b, o) (List.mem_append_right _ (List.mem_append_right _ (mem_pinsAt hb e)))
          exact ⟨z1, z2⟩
        have same : (wipe σ (own.map (·.2))).length = σ8.length := by rw [← hw8, wipe_length]
        refine ⟨m', hm, i + 1, H', (J'.unpinned (pins := [])).weak same (fun j v e => (wipe_some (hw8 ▸ e)).1), T.keep _ _ _ st7 fun b hb o e => (there b hb o e).1, fun b hb => ?_, w'⟩
        obtain ⟨o, e, _⟩ := T.obj _ _ st7 b hb
        exact (there b hb o e).2
      cases b with
      | false => exact turned I9 q9
      | true =>
        refine wpAny_mono (pe'.run _ t9 σ8 H9 _ (I9.wish _) q9) (fun z t10 ⟨yv, H10, I10, r10, acc, hD10, hz10, nx⟩ => ?_) fun e s' q => q
        exact app_ok (X := X.blk t3 H3 scope ce fp) I10.unwish hD10 hz10 r10 fun t11 I11 => turned I11 nx
  exact codeAny_compStart_list loop (T.self X.A 0 _ _ _ st4 loop)
theorem pe_calXE {E : XK} {k j : Nat} {x : Str} {ps : List Str} {sp : Sp} {e : Expr} {es : List Expr} {t : TA} {p pos : Pos} (C : CalX X.prog X.w X.K X.mg X.base k x ps sp) (hr : Room j X.A) (hk : k ≤ j) (hp : ∀ σ, PassesAt (L2.CX X.prog X.w) X σ E) (hg : Gl X x) (ha : PA X (e :: es) t)
    (hdb : (x == ("__debug__" : Str)) = false := by decide) (he : starEach (e :: es) X.env = (false, eval e X.env) :: starEach es X.env := by rfl) (hpl : (backTo pos (starEach es X.env)).any (·.1) = false := by rfl) :
    PE X (.Call (.Name x p) (e :: es) [] pos) (tCallS sp (fun _ => E) t) := by
  obtain ⟨f, fd, F, hm, hkp, hb⟩ := C.ex
  exact pe_callS F (hr.mono hk) hg hm hkp hb hp ha hdb he hpl
end
end SF
namespace SF
open PySem PySem.Spec PyProof.Rows L2 TL NumText
structure OwnP (H0 H : Hp) (l : Addr) (ds : List Pt) : Prop where
  new : H0 l = none
  ex : Ex H0 H
  at_ : ∃ ps : List Addr, ps.length = ds.length ∧ H l = some (.lst (ps.map V.ref)) ∧ ∀ (t : Nat) (p : Addr) (d : Pt), ps[t]? = some p → ds[t]? = some d → H p = some (.lst (d.map V.int)) ∧ p ≠ l
section
variable {K : PySem.W.Frag} {σ : L2.St} {H0 H H' : Hp} {l : Addr} {ds : List Pt}
theorem OwnP.up (h : OwnP H0 H l ds) (e : Ex H H') : OwnP H0 H' l ds := by
  obtain ⟨ps, h1, h2, h3⟩ := h.at_
  exact ⟨h.new, ex_tr h.ex e, ps, h1, e _ _ h2, fun t p d hp hd => ⟨e _ _ (h3 t p d hp hd).1, (h3 t p d hp hd).2⟩⟩
theorem OwnP.app {p : Addr} {x : Pt} {xs : List V} (h : OwnP H0 H l ds) (hx : H l = some (.lst xs)) (hp : H p = some (.lst (x.map V.int))) (hn : p ≠ l) : OwnP H0 (upd H l (.lst (xs ++ [.ref p]))) l (ds ++ [x]) := by
  obtain ⟨ps, h1, h2, h3⟩ := h.at_
  rw [hx] at h2
  injection h2 with h2
  injection h2 with h2
  subst h2
  refine ⟨h.new, fun b o hb => ?_, ps ++ [p], by simp [h1], by rw [upd_same]; simp, fun t q d hq hd => ?_⟩
  · rw [upd_ne (by rintro rfl; rw [h.new] at hb; cases hb)]
    exact h.ex b o hb
  · by_cases z : t < ps.length
    · rw [List.getElem?_append_left z] at hq
      rw [List.getElem?_append_left (by omega)] at hd
      obtain ⟨a, b⟩ := h3 t q d hq hd
      exact ⟨by rw [upd_ne b]; exact a, b⟩
    · have zt : t = ps.length := by
        have := (List.getElem?_eq_some_iff.mp hq).1
        simp at this
        omega
      subst zt
      rw [List.getElem?_append_right (Nat.le_refl _), Nat.sub_self] at hq
      rw [List.getElem?_append_right (by omega), h1, Nat.sub_self] at hd
      cases hq
      cases hd
      exact ⟨by rw [upd_ne hn]; exact hp, hn⟩
theorem ddAll_ps : ∀ {ps : List Addr} {ds : List Pt}, ps.length = ds.length → (∀ (t : Nat) (p : Addr) (d : Pt), ps[t]? = some p → ds[t]? = some d → H p = some (.lst (d.map V.int))) → DdAll K H (ps.map V.ref) (ds.map plD)
  | [], [], _, _ => .nil
  | p :: ps, d :: ds, h, k => .cons (.lst (SqL.of (k 0 p d rfl rfl)) (DdAll.ints d)) (ddAll_ps (by simpa using h) fun t p' d' hp hd => k (t + 1) p' d' (by simpa using hp) (by simpa using hd))
theorem OwnP.dd (h : OwnP H0 H l ds) : Dd K H (.ref l) (.list (ds.map plD)) := by
  obtain ⟨ps, h1, h2, h3⟩ := h.at_
  exact .lst (SqL.of h2) (ddAll_ps h1 fun t p d hp hd => (h3 t p d hp hd).1)
theorem OwnP.list (h : OwnP H0 H l ds) : ∃ xs, H l = some (.lst xs) ∧ xs.length = ds.length := by
  obtain ⟨ps, h1, h2, _⟩ := h.at_
  exact ⟨_, h2, by rw [List.length_map, h1]⟩
end
def EvI1 (l : Addr) (wi : TI) (g : TG) (σ : L2.St) (H : Hp) (n : Nat) (B : Nat → Hp → L2.St → L2.St → Prop) : Prop :=
  ∀ R : It → Hp → Prop, (∀ J H2 G, Ex H H2 → (∀ H3, Ex1 l H2 H3 → G H3) → Feeds J g n G B → R J H2) → wi σ H R
section
variable {K : PySem.W.Frag} {σ : L2.St} {H : Hp} {l : Addr} {D : Ends} {tu : TS} {g : TG} {wi : TI} {n : Nat} {B : Nat → Hp → L2.St → L2.St → Prop}
theorem ei1_list {tl : TE} {ds : List PyData} {xs0 : List V} {j : Nat} (hl : H l = some (.lst xs0)) (h : EvF K tl σ H ds) (ht : tupOAll ds = true) : EvI1 l (iLT K tl) (gName j) σ H ds.length (B1 K j ds) := fun R q =>
  h H ex_refl _ fun p xs H2 hp e2 h1 h2 => by
    refine ⟨p, rfl, .inl ⟨⟨xs, SqL.of h1⟩, q _ H2 _ e2 (fun H3 e3 => ?_) feeds_list⟩⟩
    have npl : p ≠ l := by rintro rfl; rw [hl] at hp; cases hp
    exact .lst (SqL.of (e3 p _ h1 npl)) (h2.tx (tex1 e3 (e2 l _ hl)) ht)
theorem s_for1 (h : EvI1 l wi g σ H n B) (Pv : Hp → Nat → L2.St → Hp → Prop) (h0 : ∀ H2, Ex H H2 → Pv H2 0 σ H2) (hG : ∀ H2 i σ' H', i ≤ n → Pv H2 i σ' H' → Ex1 l H2 H')
    (hs : ∀ H2 i σ' σ'' H' H'', Ex H H2 → i < n → Pv H2 i σ' H' → Ex H' H'' → B i H'' σ' σ'' → tu { D with nx := Pv H2 (i + 1), ct := Pv H2 (i + 1), bk := D.nx } σ'' H'') (hd : ∀ H2 σ' H', Ex H H2 → Pv H2 n σ' H' → D.nx σ' H') : tFor wi g tu D σ H :=
  h _ fun J H2 G e2 hg w => for_feeds w (Pv H2) (h0 H2 e2) (fun i σ' H' hi p => hg H' (hG H2 i σ' H' hi p)) (fun i σ' σ'' H' H'' hi p e hB => hs H2 i σ' σ'' H' H'' e2 hi p e hB) fun σ' H' p => hd H2 σ' H' e2 p
end
theorem ev_numX {K : PySem.W.Frag} {σ : L2.St} {H : Hp} {Er : Addr} {E : L2.St → XK} {ta : TE} {z : Str} {n : Int} (h : EvD K ta σ H (.str z)) (hz : z.length ≤ 90000) (hn : numOf (tl z) = some n) :
    EvD K (tCallS (spNumX Er K) E (tCons ta tNil)) σ H (.int n) := fun H1 e Q q =>
  h H1 e _ fun v H2 e2 hv => by
    obtain rfl := dp_str hv
    refine ⟨z, rfl, hz, fun m hm H3 e3 => ?_, fun hno => ?_⟩
    · rw [hn] at hm
      cases hm
      exact q _ H3 (ex_tr e2 e3) (.int _)
    · rw [hn] at hno
      cases hno
theorem wordsX {K : PySem.W.Frag} {σ : L2.St} {H : Hp} {Er : Addr} {E : XK} {wi : TI} {ni : Nat} {ws : List (List Nat)} {Q : VK} (hi : EvI wi (gName ni) σ H ws.length (B1 K ni (ws.map fun w => .str (txt w)))) (hn : ws.length ≤ 50000) (hl : ∀ w ∈ ws, w.length ≤ 90000)
    (hw : ∀ x, wipe ((wipe σ [ni]).set ni (some x)) [ni] = wipe σ [ni]) (hg : ∀ x, ((wipe σ [ni]).set ni (some x))[ni]? = some (some x))
    (h1 : ∀ ns, allOf numOf ws = some ns → ∀ p xs H2, H p = none → Ex H H2 → H2 p = some (.lst xs) → xs = ns.map V.int → Q (.ref p) H2) (h2 : allOf numOf ws = none → ∀ H2, Ex H H2 → E (.ref Er) none H2) :
    tLc wi (gName ni) tYes (tCallS (spNumX Er K) (fun _ => E) (tCons (tVar ni) tNil)) [ni] σ H Q := by
  cases ha : allOf numOf ws with
  | some ns =>
    obtain ⟨e1, e2⟩ := allOf_some ha
    have hF : EvF K (tLc wi (gName ni) tYes (tCallS (spNumX Er K) (fun _ => E) (tCons (tVar ni) tNil)) [ni]) σ H (ns.map .int) :=
      EvF.to (ef_lc1 (fun i => .int (ns.getD i 0)) hi hn (hwB1 hw) (by
        rintro i H' σ' e hi' ⟨u, d, hd, hu, rfl⟩
        obtain ⟨w, ew, rfl⟩ := map_got hd
        obtain ⟨b, q1, q2⟩ := e2 i w ew
        have eg : ns.getD i 0 = b := by rw [List.getD_eq_getElem?_getD, q2]; rfl
        refine ⟨?_, rfl⟩
        rw [eg]
        exact ev_numX (ev_var (hg _) hu) (by rw [txt_len]; exact hl w (List.mem_of_getElem? ew)) q1)) (by
        refine range_map_eq e1.symm fun i hi' => ?_
        rw [List.getD_eq_getElem?_getD, List.getElem?_eq_getElem hi']
        rfl)
    exact hF H ex_refl Q fun p xs H2 hp e2 g1 g2 => h1 ns ha p xs H2 hp e2 g1 (dp_ints g2)
  | none =>
    obtain ⟨k, w0, hk, hw0⟩ : ∃ (k : Nat) (w0 : List Nat), ws[k]? = some w0 ∧ numOf w0 = none := by
      by_cases z : ∃ (k : Nat) (w0 : List Nat), ws[k]? = some w0 ∧ numOf w0 = none
      · exact z
      · exfalso
        obtain ⟨bs, e⟩ := allOf_of (f := numOf) (l := ws) fun i a hi' hn' => z ⟨i, a, hi', hn'⟩
        rw [ha] at e
        cases e
    have hkl := (List.getElem?_eq_some_iff.mp hk).1
    refine hi H ex_refl _ fun J H1 G e1 hG w Da hD => lc_feeds w (fun i H' => i ≤ k ∧ ∃ ns : List Int, ns.length = i ∧ Own K H1 H' Da (ns.map .int)) ⟨Nat.zero_le _, [], rfl, hD, ex_new hD, ⟨[], upd_same, .nil⟩, rfl⟩
      (fun i H' _ o => by obtain ⟨_, _, _, o⟩ := o; exact hG H' o.ex) (fun i H' H'' σ2 hin o e2 hB => ⟨hwB1 hw i H'' σ2 hB, ?_⟩) (fun H' o => by
        exfalso
        have := o.1
        omega)
    obtain ⟨hik, ns, hns, o⟩ := o
    have eH : Ex H H'' := ex_tr e1 (ex_tr o.ex e2)
    refine et_yes H'' ex_refl _ fun H3 e3 => ?_
    have o3 := o.up (ex_tr e2 e3)
    obtain ⟨u, d, hd, hu, rfl⟩ := hB
    obtain ⟨wd, ew, rfl⟩ := map_got hd
    obtain rfl := dp_str hu
    have lw : (txt wd).length ≤ 90000 := by rw [txt_len]; exact hl wd (List.mem_of_getElem? ew)
    show (tCallS (spNumX Er K) (fun _ => E) (tCons (tVar ni) tNil)) _ H3 _
    refine ⟨_, hg _, txt wd, rfl, lw, fun m hm H4 e4 => ?_, fun _ H4 e4 => h2 ha H4 (ex_tr eH (ex_tr e3 e4))⟩
    have o4 := o3.up e4
    obtain ⟨xs, g1, g2⟩ := o4.at_
    have nk : i ≠ k := by
      rintro rfl
      rw [hk] at ew
      cases ew
      rw [tl_txt, hw0] at hm
      cases hm
    refine ⟨xs, g1, Evl.sz_lt (by rw [g2.len, List.length_map]; omega), by omega, ns ++ [m], by simp [hns], ?_⟩
    rw [List.map_append]
    exact o4.put g1 (g2.app (.cons (.int m) .nil)) (tupOAll_app o4.tup rfl)
end SF
namespace SF
open PySem PySem.Spec PyProof.Rows L2 TL NumText
theorem allOf_snoc {α β : Type} {f : α → Option β} {a : α} {b : β} : ∀ {l : List α} {bs : List β}, allOf f l = some bs → f a = some b → allOf f (l ++ [a]) = some (bs ++ [b])
  | [], bs, h, h2 => by
    cases h
    show allOf f [a] = some [b]
    unfold allOf
    rw [h2]
    rfl
  | c :: l, bs, h, h2 => by
    unfold allOf at h
    split at h
    · rename_i d cs h3 h4
      cases h
      rw [List.cons_append, allOf, h3, allOf_snoc h4 h2]
      rfl
    · cases h
theorem stepOf_len {W : Nat} {r : List Nat} {p : Pt} (h : stepOf W r = some p) : p.length = W := by
  unfold stepOf at h
  split at h
  · rename_i e
    rw [(allOf_some h).1, e]
  · cases h
theorem parseR_bad {r0 : List Nat} {rest : List (List Nat)} {n : Int} {i : Nat} {r : List Nat} (h0 : headOf r0 = some n) (hr : rest[i]? = some r) (hb : stepOf n.toNat r = none) : parseR (r0 :: rest) = none := by
  show (match headOf r0 with
    | none => none
    | some n => if 1 ≤ n ∧ n ≤ 4 ∧ rest.length ≤ 6 then (allOf (stepOf n.toNat) rest).map (fun S => (n.toNat, S)) else none) = none
  rw [h0]
  simp only []
  rw [allOf_none hr hb]
  split <;> rfl
theorem parseR_wide {r0 : List Nat} {rest : List (List Nat)} {n : Int} (h0 : headOf r0 = some n) (hb : ¬ (1 ≤ n ∧ n ≤ 4 ∧ rest.length ≤ 6)) : parseR (r0 :: rest) = none := by
  show (match headOf r0 with
    | none => none
    | some n => if 1 ≤ n ∧ n ≤ 4 ∧ rest.length ≤ 6 then (allOf (stepOf n.toNat) rest).map (fun S => (n.toNat, S)) else none) = none
  rw [h0]
  simp only []
  rw [if_neg hb]
theorem parseR_head {r0 : List Nat} {rest : List (List Nat)} (h0 : headOf r0 = none) : parseR (r0 :: rest) = none := by
  show (match headOf r0 with
    | none => none
    | some n => if 1 ≤ n ∧ n ≤ 4 ∧ rest.length ≤ 6 then (allOf (stepOf n.toNat) rest).map (fun S => (n.toNat, S)) else none) = none
  rw [h0]
theorem parseR_yes {r0 : List Nat} {rest : List (List Nat)} {n : Int} {S : List Pt} (h0 : headOf r0 = some n) (hb : 1 ≤ n ∧ n ≤ 4 ∧ rest.length ≤ 6) (hS : allOf (stepOf n.toNat) rest = some S) : parseR (r0 :: rest) = some (n.toNat, S) := by
  show (match headOf r0 with
    | none => none
    | some n => if 1 ≤ n ∧ n ≤ 4 ∧ rest.length ≤ 6 then (allOf (stepOf n.toNat) rest).map (fun S => (n.toNat, S)) else none) = _
  rw [h0]
  simp only []
  rw [if_pos hb, hS]
  rfl
section
variable {K : PySem.W.Frag} {σ : L2.St} {H : Hp} {Er : Addr} {E : L2.St → XK} {ta : TE} {z : Str} {D : Ends} {i : Nat}
theorem s_asgX (h : EvD K ta σ H (.str z)) (hz : z.length ≤ 90000) (h1 : ∀ n, numOf (tl z) = some n → ∀ H1, Ex H H1 → D.nx (σ.set i (some (.int n))) H1) (h2 : numOf (tl z) = none → ∀ H1, Ex H H1 → E σ (.ref Er) none H1) :
    tAsg (tCallS (spNumX Er K) E (tCons ta tNil)) (gName i) D σ H := h H ex_refl _ fun v H2 e2 hv => by
  obtain rfl := dp_str hv
  exact ⟨z, rfl, hz, fun n hn H3 e3 => h1 n hn H3 (ex_tr e2 e3), fun hn H3 e3 => h2 hn H3 (ex_tr e2 e3)⟩
theorem s_retM {te : TE} {C : Addr} {W : Nat} {S : List Pt} (h : EvM C K te σ H W S) (k : ∀ a H1, H a = none → Ex H H1 → FieldAt C K H1 a W S → D.rt (.ref a) H1) : tRet te D σ H := h H ex_refl _ k
end
theorem row_len {t r : List Nat} (h : r ∈ rowsOf t) : r.length ≤ t.length := by
  have := spl_len [10] t [] 0 r h
  simpa using this
theorem word_len {r w : List Nat} (h : w ∈ wordsOf r) : w.length ≤ r.length := by
  have := spl_len [32] r [] 0 w h
  simpa using this
end SF
namespace SF
open TL
theorem wordsOf_many (r : List Nat) : (wordsOf r).length ≤ r.length + 1 := spl_many [32] r [] 0
end SF
namespace SF
open PySem PySem.Spec PyProof.Rows L2 TL NumText
def spBack (K : PySem.W.Frag) : Sp := fun vs H Q _ => ∃ (W : Nat) (x : V) (S : List Pt), vs = [.int (W : Int), x] ∧ Dd K H x (.list (S.map ptD)) ∧ TOk W S ∧ ∀ H2, Ex H H2 → Q (.bl true) H2
section
variable {K : PySem.W.Frag} {σ : L2.St} {H : Hp} {C : Addr} {E : XK} {ta tb tm : TE} {W : Nat} {S : List Pt}
theorem ev_shown (h : EvM C K tm σ H W S) (ok : TOk W S) : EvD K (tCall (spShown C K) [] E (tCons tm tNil)) σ H (.str (txt (textL W S))) := fun H1 e Q q =>
  h H1 e _ fun a H2 ha e2 hF => ⟨a, W, S, rfl, hF, ok, fun H3 e3 => q _ H3 (ex_tr e2 e3) (.str _)⟩
theorem em_read {z : Str} (h : EvD K ta σ H (.str z)) (hz : z.length ≤ 80000) (hp : parse (tl z) = some (W, S)) : EvM C K (tCall (spRead C K) [] E (tCons ta tNil)) σ H W S := fun H1 e Q q =>
  h H1 e _ fun v H2 e2 hv => by
    obtain rfl := dp_str hv
    exact ⟨z, W, S, rfl, hz, hp, fun a H3 ha e3 hF => q a H3 (ex_back e2 ha) (ex_tr e2 e3) hF⟩
theorem ev_back (h1 : EvD K ta σ H (.int (W : Int))) (h2 : EvD K tb σ H (.list (S.map ptD))) (ok : TOk W S) : EvD K (tCall (spBack K) [] E (tCons ta (tCons tb tNil))) σ H (.bool true) := fun H1 e Q q =>
  h1 H1 e _ fun v H2 e2 hv => h2 H2 (ex_tr e e2) _ fun u H3 e3 hu => by
    obtain rfl := dp_int hv
    exact ⟨W, u, S, rfl, hu, ok, fun H4 e4 => q _ H4 (ex_tr e2 (ex_tr e3 e4)) (.bl true)⟩
end
end SF
namespace SF
open PySem PySem.Spec PyProof.Rows L2 TL NumText
theorem pre_one (s c : Nat) (r : List Nat) : pre [s] (c :: r) = decide (c = s) := by
  unfold pre
  rw [Bool.eq_iff_iff]
  simp
theorem spl_count (s : Nat) : ∀ (l acc : List Nat), (spl [s] 0 acc l).length = l.count s + 1
  | [], acc => by rw [spl_nil]; rfl
  | c :: r, acc => by
    by_cases h : c = s
    · have hp : pre [s] (c :: r) = true := by rw [pre_one]; exact decide_eq_true h
      rw [spl_hit hp, List.length_cons]
      show (spl [s] 0 [] r).length + 1 = _
      rw [spl_count s r [], h, List.count_cons_self]
    · have hp : pre [s] (c :: r) = false := by rw [pre_one]; exact decide_eq_false h
      rw [spl_miss hp, spl_count s r _, List.count_cons_of_ne (Ne.symm (Ne.symm h))]
theorem words_count (r : List Nat) : (wordsOf r).length = r.count 32 + 1 := spl_count 32 r []
theorem count_joinL (s : Nat) : ∀ (ps : List (List Nat)), ps ≠ [] → (joinL [s] ps).count s + 1 = ps.length + (ps.map (·.count s)).sum
  | [], h => absurd rfl h
  | [p], _ => by
    show p.count s + 1 = _
    simp
    omega
  | p :: q :: r, _ => by
    have ih := count_joinL s (q :: r) (by simp)
    show (p ++ ([s] ++ joinL [s] (q :: r))).count s + 1 = _
    rw [List.count_append, List.count_append]
    have h1 : ([s] : List Nat).count s = 1 := by simp
    rw [h1]
    simp only [List.map_cons, List.sum_cons, List.length_cons] at ih ⊢
    omega
theorem joinL_spl (s : Nat) (l : List Nat) (hs : s < 256) : joinL [s] (spl [s] 0 [] l) = l := by
  have e := PySem.StrLaws.join_split (txt l) (txt [s])
  have e1 := congrArg TL.tl e
  rw [tl_join, split_spl (txt l) (txt [s]) (by simp) (kind_ok (by simp [hs]))] at e1
  exact e1
theorem joinL_words (r : List Nat) : joinL [32] (wordsOf r) = r := joinL_spl 32 r (by decide)
theorem joinL_rows (t : List Nat) : joinL [10] (rowsOf t) = t := joinL_spl 10 t (by decide)
theorem spl_free (s : Nat) : ∀ (l acc : List Nat), s ∉ acc → ∀ p ∈ spl [s] 0 acc l, s ∉ p
  | [], acc, h, p, hp => by
    rw [spl_nil] at hp
    rw [List.mem_singleton.mp hp]
    exact h
  | c :: r, acc, h, p, hp => by
    by_cases hc : c = s
    · have hh : pre [s] (c :: r) = true := by rw [pre_one]; exact decide_eq_true hc
      rw [spl_hit hh] at hp
      rcases List.mem_cons.mp hp with rfl | hp
      · exact h
      · exact spl_free s r [] (by simp) p hp
    · have hh : pre [s] (c :: r) = false := by rw [pre_one]; exact decide_eq_false hc
      rw [spl_miss hh] at hp
      refine spl_free s r _ (fun hm => ?_) p hp
      rcases List.mem_append.mp hm with hm | hm
      · exact h hm
      · exact hc (List.mem_singleton.mp hm).symm
theorem words_free {r w : List Nat} (h : w ∈ wordsOf r) : 32 ∉ w := spl_free 32 r [] (by simp) w h
def badW (b : List Nat) : Bool := decide (b.length ≤ 60) && !b.contains 10 && (b.contains 32 || (numOf b).isNone)
theorem badW_iff {b : List Nat} (h : badW b = true) : b.length ≤ 60 ∧ 10 ∉ b ∧ (32 ∈ b ∨ numOf b = none) := by
  unfold badW at h
  simp at h
  exact ⟨h.1.1, h.1.2, h.2⟩
theorem bad_of {b : List Nat} (h1 : b.length ≤ 60) (h2 : 10 ∉ b) (h3 : 32 ∈ b ∨ numOf b = none) : badW b = true := by
  unfold badW
  simp
  exact ⟨⟨h1, h2⟩, h3⟩
theorem mem_le_sum : ∀ {l : List Nat} {a : Nat}, a ∈ l → a ≤ l.sum
  | x :: l, a, h => by
    rw [List.sum_cons]
    rcases List.mem_cons.mp h with rfl | h
    · omega
    · have := mem_le_sum h
      omega
theorem step_set {W k : Nat} {ws : List (List Nat)} {b : List Nat} (hl : ws.length = W) (hf : ∀ w ∈ ws, 32 ∉ w) (hk : k < ws.length) (hb : 32 ∈ b ∨ numOf b = none) : stepOf W (joinL [32] (ws.set k b)) = none := by
  have hne : ws.set k b ≠ [] := by
    intro e
    have := congrArg List.length e
    simp at this
    subst this
    simp at hk
  by_cases h32 : 32 ∈ b
  · unfold stepOf
    rw [if_neg]
    rw [words_count]
    have c := count_joinL 32 (ws.set k b) hne
    rw [List.length_set] at c
    have hm : b ∈ ws.set k b := List.mem_set hk b
    have : 1 ≤ ((ws.set k b).map (·.count 32)).sum := by
      have h1 : 1 ≤ b.count 32 := List.count_pos_iff.mpr h32
      have h2 : b.count 32 ∈ (ws.set k b).map (·.count 32) := List.mem_map.mpr ⟨b, hm, rfl⟩
      have := mem_le_sum h2
      omega
    omega
  · have hb := hb.resolve_left h32
    unfold stepOf
    rw [words_joined hne (fun p hp => by
      rcases List.mem_or_eq_of_mem_set hp with hp | rfl
      · exact hf p hp
      · exact h32), if_pos (by rw [List.length_set, hl])]
    exact allOf_none (i := k) (a := b) (List.getElem?_set_self hk) hb
theorem step_many {W : Nat} {r : List Nat} (h : r.count 32 + 1 ≠ W) : stepOf W r = none := by
  unfold stepOf
  rw [if_neg (by rw [words_count]; exact h)]
theorem numOf_nil : numOf [] = none := by decide +kernel
theorem step_empty {W : Nat} : stepOf W [] = none := by
  unfold stepOf
  have e : wordsOf [] = [[]] := rfl
  rw [e]
  split
  · exact allOf_none (i := 0) (a := []) rfl numOf_nil
  · rfl
theorem parse_rows {rs : List (List Nat)} (hne : rs ≠ []) (h : ∀ r ∈ rs, 10 ∉ r) : parse (joinL [10] rs) = parseR rs := by
  unfold parse
  rw [rows_joined hne h]
theorem parseR_set {W : Nat} {r0 : List Nat} {rest : List (List Nat)} {i : Nat} {r : List Nat} (h0 : headOf r0 = some (W : Int)) (hi : i < rest.length) (hb : stepOf W r = none) : parseR ((r0 :: rest).set (i + 1) r) = none := by
  show parseR (r0 :: rest.set i r) = none
  exact parseR_bad (i := i) (r := r) h0 (List.getElem?_set_self hi) (by rw [Int.toNat_natCast]; exact hb)
def badH (h : List Nat) : Bool := decide (h.length ≤ 60) && !h.contains 10 && (match headOf h with
  | none => true
  | some n => !(decide (1 ≤ n) && decide (n ≤ 4)))
theorem parseR_badH {h : List Nat} {rest : List (List Nat)} (hb : badH h = true) : h.length ≤ 60 ∧ 10 ∉ h ∧ parseR (h :: rest) = none := by
  unfold badH at hb
  simp only [Bool.and_eq_true] at hb
  obtain ⟨⟨h1, h2⟩, h3⟩ := hb
  refine ⟨by simpa using h1, by simpa using h2, ?_⟩
  cases e : headOf h with
  | none => exact parseR_head e
  | some n =>
    rw [e] at h3
    refine parseR_wide e fun z => ?_
    simp at h3
    omega
theorem foldl_ge : ∀ (r : List Nat) (a : Nat), a * 10 ^ r.length ≤ r.foldl (fun acc c => acc * 10 + (c - 48)) a
  | [], a => by simp
  | d :: r, a => by
    rw [List.foldl_cons, List.length_cons, Nat.pow_succ]
    have h1 := foldl_ge r (a * 10 + (d - 48))
    have h2 : a * 10 * 10 ^ r.length ≤ (a * 10 + (d - 48)) * 10 ^ r.length := Nat.mul_le_mul_right _ (by omega)
    have h3 : a * (10 ^ r.length * 10) = a * 10 * 10 ^ r.length := by rw [Nat.mul_comm (10 ^ r.length) 10, Nat.mul_assoc]
    omega
theorem digitsVal_cons (c : Nat) (r : List Nat) : (c - 48) * 10 ^ r.length ≤ digitsVal (c :: r) := by
  have h := foldl_ge r (0 * 10 + (c - 48))
  rw [Nat.zero_mul, Nat.zero_add] at h
  unfold digitsVal
  rw [List.foldl_cons, Nat.zero_mul, Nat.zero_add]
  exact h
theorem numOf_small {w : List Nat} {n : Int} (h : numOf w = some n) (h1 : 1 ≤ n) (h4 : n ≤ 4) : w = numL n.toNat := by
  unfold numOf at h
  split at h
  · cases h
  · rename_i c0
    split at h
    · rename_i hd
      split at h
      · cases h
      · rcases figs_cases w with ⟨q1, q2⟩ | ⟨q1, q2⟩
        · rw [if_pos q1] at h
          injection h with h
          omega
        · rw [if_neg q1] at h
          injection h with h
          rw [q2] at h hd c0
          match w, h, hd, c0 with
          | [], h, _, c0 => exact absurd (.inl (by simp)) c0
          | [c], h, hd, _ =>
            have hc : digit c = true := by simpa using hd
            unfold digit at hc
            simp at hc
            have : digitsVal [c] = c - 48 := by simp [digitsVal]
            rw [this] at h
            rw [numL_lt (by omega)]
            congr 1
            omega
          | c :: d :: r, h, hd, c0 =>
            exfalso
            have hc : digit c = true := by
              rw [List.all_eq_true] at hd
              exact hd c (by simp)
            have hc48 : c ≠ 48 := fun e => c0 (.inr (.inl ⟨by simp, by rw [e]; rfl⟩))
            unfold digit at hc
            simp at hc
            have := digitsVal_cons c (d :: r)
            have h10 : 10 ≤ 10 ^ (d :: r).length := by
              rw [List.length_cons, Nat.pow_succ]
              have : 1 ≤ 10 ^ r.length := Nat.one_le_pow _ _ (by decide)
              omega
            have h2 : 1 * 10 ≤ (c - 48) * 10 ^ (d :: r).length := Nat.mul_le_mul (by omega) h10
            omega
    · cases h
theorem head_of {r : List Nat} {n : Int} (h : headOf r = some n) (h1 : 1 ≤ n) (h4 : n ≤ 4) : r = headL n.toNat := by
  unfold headOf at h
  split at h
  · rename_i a w e
    split at h
    · rename_i ha
      have hw := numOf_small h h1 h4
      have j := joinL_words r
      rw [e, ha, hw] at j
      exact j.symm
    · cases h
  · cases h
theorem numOf_other {w : List Nat} : numOf w = if ¬ (1 ≤ (figsOf w).length ∧ (figsOf w).length ≤ 16) ∨ ¬ (figsOf w).all digit = true then none
    else if ((figsOf w).head? = some 48 ∧ w ≠ [48]) ∨ 1000000000000000 < digitsVal (figsOf w) then none
    else some (if w.head? = some 45 then -((digitsVal (figsOf w) : Nat) : Int) else ((digitsVal (figsOf w) : Nat) : Int)) := by
  unfold numOf
  by_cases a : 1 ≤ (figsOf w).length ∧ (figsOf w).length ≤ 16
  · by_cases b : (figsOf w).all digit = true
    · rw [if_neg (show ¬ (¬ (1 ≤ (figsOf w).length ∧ (figsOf w).length ≤ 16) ∨ ¬ (figsOf w).all digit = true) by
        rintro (z | z)
        · exact z a
        · exact z b)]
      have key : ((figsOf w).head? = some 48 ∧ w ≠ [48]) ↔ (1 < (figsOf w).length ∧ (figsOf w).head? = some 48) ∨ w = [45, 48] := by
        constructor
        · rintro ⟨h1, h2⟩
          by_cases l : 1 < (figsOf w).length
          · exact .inl ⟨l, h1⟩
          · have e : figsOf w = [48] := by
              match q : figsOf w, a, l, h1 with
              | [c], _, _, h1 => rw [show c = 48 by simpa using h1]
              | _ :: _ :: _, _, l, _ => exact absurd (by simp) l
            rcases figs_cases w with ⟨_, q⟩ | ⟨_, q⟩
            · exact .inr (by rw [q, e])
            · exact absurd (q ▸ e) h2
        · rintro (⟨h1, h2⟩ | rfl)
          · refine ⟨h2, ?_⟩
            rintro rfl
            simp [figsOf] at h1
          · exact ⟨rfl, by simp⟩
      by_cases c : (figsOf w).head? = some 48 ∧ w ≠ [48]
      · rw [if_pos (.inr (key.mp c)), if_pos (.inl c)]
      · rw [if_neg (by
          rintro (z | z)
          · exact z a
          · exact c (key.mpr z)), if_pos b]
        by_cases d : 1000000000000000 < digitsVal (figsOf w)
        · rw [if_pos d, if_pos (.inr d)]
        · rw [if_neg d, if_neg (show ¬ (((figsOf w).head? = some 48 ∧ w ≠ [48]) ∨ 1000000000000000 < digitsVal (figsOf w)) by
            rintro (z | z)
            · exact c z
            · exact d z)]
    · rw [if_pos (show ¬ (1 ≤ (figsOf w).length ∧ (figsOf w).length ≤ 16) ∨ ¬ (figsOf w).all digit = true from .inr b)]
      split
      · rfl
      · rfl
  · rw [if_pos (.inl a), if_pos (.inl a)]
theorem repl_num (i : Int) : PySem.StrLaws.replL [45] [] (numI i) = numL i.natAbs := by
  have plain : PySem.StrLaws.replL [45] [] (numL i.natAbs) = numL i.natAbs := by
    have h := PySem.StrLaws.repl_none (y := [45]) (z := []) (L := numL i.natAbs) (a := 0) fun k _ e => by
      have : 45 ∈ (List.drop k (numL i.natAbs)) := List.mem_of_mem_take (i := 1) (by
        have e' : List.take 1 (List.drop k (numL i.natAbs)) = [45] := e
        rw [e']
        simp)
      exact numL_free (by omega) (List.mem_of_mem_drop this)
    rw [List.drop_zero] at h
    exact h
  unfold numI
  split
  · rw [PySem.StrLaws.replL_hit (by simp) (by simp)]
    exact plain
  · exact plain
end SF
namespace SF
open PySem PySem.Spec PyProof.Rows L2 TL NumText
section
variable {X : Cx} {r : R2} {tf : TE} {x : Str} {j : Nat} {c0 pos : Pos} {op : Operator} {f : Expr}
theorem pe_strThen (ho : OpR X (binaryOp op) r) (hb : PET X f tf) : PE X (.BinOp (.Constant (.str x) j c0) op f pos) (tOp r (tC (.str x)) tf) := by
  refine ⟨fun pins s σ H Q I h => ?_⟩
  refine wpAny_BinOp (Calls.Constant_str ?_)
  exact thn (hb pins { s with toks := s.toks + 1 } σ H _ (by show 1 ≤ s.toks + 1; omega) (I.tok _) h) fun u s2 ⟨y, H2, I2, r2, q2⟩ => ho pins s2 σ H2 (.str x) y _ u Q I2 ⟨s.toks, rfl⟩ r2 q2
end
section
variable {K : PySem.W.Frag} {σ : L2.St} {H : Hp} {ta tb te : TE} {a b : Str} {D : Ends}
theorem ev_repl {y z : Str} (h : EvD K ta σ H (.str a)) (hl : a.length ≤ 1000) (hz : z.length ≤ 10) : EvD K (CwR.tReplC ta y z) σ H (.str (Txt.replace a y z)) := fun H1 e Q q =>
  h H1 e _ fun v H2 e2 hv => by
    obtain rfl := dp_str hv
    refine ⟨a, rfl, ?_, q _ H2 e2 (.str _)⟩
    have : (a.length + 1) * z.length ≤ 1001 * 10 := Nat.mul_le_mul (by omega) hz
    omega
theorem inV_strs : ∀ (ys : List Str), inV (.str a) (ys.map V.str) = decide (tl a ∈ ys.map TL.tl)
  | [] => rfl
  | y :: ys => by
    have ih := inV_strs ys
    unfold inV at ih ⊢
    rw [List.map_cons, List.any_cons, ih, List.map_cons]
    have e : eqV (.str y) (.str a) = decide (tl a = tl y) := by
      show (y == a) = _
      rw [Bool.eq_iff_iff, decide_eq_true_eq, beq_iff_eq]
      exact ⟨fun h => by rw [h], fun h => (TL.ext_tl h).symm⟩
    rw [e, Bool.eq_iff_iff]
    simp
theorem flat_strs (ys : List Str) : (ys.map V.str).all flatV = true := by
  rw [List.all_map]
  exact List.all_eq_true.mpr fun _ _ => rfl
theorem rd_notInT {ys : List Str} : RD K (rIn K true) (.str a) (.tuple (ys.map .str)) (.bool (!decide (tl a ∈ ys.map TL.tl))) := fun x y H hx hy Q q => by
  cases hx
  obtain ⟨p, xs, rfl, hs, ha⟩ := dp_tup hy
  obtain rfl := dp_strs ha
  refine ⟨p, _, rfl, .inr hs.sq, rfl, flat_strs ys, ?_⟩
  rw [if_pos rfl, inV_strs]
  exact q _ H ex_refl (.bl _)
def optI : Option Int → PyData
  | none => .none
  | some n => .int n
def optIV : Option Int → V
  | none => .non
  | some n => .int n
theorem dp_optI {H : Hp} {v : V} {o : Option Int} (h : Dd K H v (optI o)) : v = optIV o := by
  cases o with
  | none => exact dp_non h
  | some n => exact dp_int h
theorem dp_optIs {H : Hp} : ∀ {os : List (Option Int)} {vs : List V}, DdAll K H vs (os.map optI) → vs = os.map optIV
  | [], _, h => by cases h; rfl
  | o :: os, _, h => by
    cases h with
    | cons h1 h2 => rw [dp_optI h1, dp_optIs h2]; rfl
theorem inV_none : ∀ (os : List (Option Int)), inV .non (os.map optIV) = os.contains none
  | [] => rfl
  | o :: os => by
    have ih := inV_none os
    unfold inV at ih ⊢
    rw [List.map_cons, List.any_cons, ih]
    cases o with
    | none =>
      show (true || _) = _
      simp
    | some n =>
      show (false || _) = _
      rw [Bool.eq_iff_iff]
      simp
theorem rd_noneIn {os : List (Option Int)} : RD K (rIn K false) .none (.list (os.map optI)) (.bool (os.contains none)) := fun x y H hx hy Q q => by
  cases hx
  obtain ⟨p, xs, rfl, hs, ha⟩ := dp_lst hy
  obtain rfl := dp_optIs ha
  refine ⟨p, _, rfl, .inl hs, rfl, ?_, ?_⟩
  · rw [List.all_map]
    exact List.all_eq_true.mpr fun o _ => by cases o <;> rfl
  · rw [if_neg (by decide), inV_none]
    exact q _ H ex_refl (.bl _)
theorem tupO_optI (o : Option Int) : tupO (optI o) = true := by cases o <;> rfl
def rNotSign : R2 := fun x y H Q => ∃ (c : Nat) (z : Str), x = .str ⟨#[c]⟩ ∧ y = .str z ∧ Q (.bl (!decide (c ∈ z.cps.toList))) H
theorem rd_notSign {c : Nat} : RD K rNotSign (.str ⟨#[c]⟩) (.str b) (.bool (!decide (c ∈ tl b))) := fun x y H hx hy Q q => by
  cases hx; cases hy
  exact ⟨c, b, rfl, rfl, q _ H ex_refl (.bl _)⟩
def rIntS : List V → Hp → VK → Prop := fun xs H Q => ∃ a n, xs = [.str a] ∧ PySem.intText? a = some n ∧ a.length ≤ 640 ∧ Q (.int n) H
theorem rc_intS {n : Int} (h : PySem.intText? a = some n) (hl : a.length ≤ 640) : RC K rIntS [.str a] (.int n) := fun vs H hv Q q => by
  cases hv with
  | cons h1 h2 => cases h1; cases h2; exact ⟨a, n, rfl, h, hl, q _ H ex_refl (.int _)⟩
theorem s_popO {H0 : Hp} {l : Addr} {io : Nat} {ti : TE} {k : Nat} {ds : List PyData} {i : Int} (o : Own K H0 H l ds) (ho : σ[io]? = some (some (.ref l))) (hi : EvD K ti σ H (.int i)) (ei : i = (k : Int)) (hk : k < ds.length) (hz : ds.length < 100000)
    (kk : ∀ H1, TEx H H1 → Own K H0 H1 l (ds.eraseIdx k) → D.nx σ H1) : tDrop (tBM K "list" rPopAt (tVar io) (tCons ti tNil)) D σ H := by
  subst ei
  obtain ⟨xs0, h10, h20⟩ := o.at_
  refine ⟨_, ho, Or.inl ⟨rfl, xs0, SqL.of h10⟩, ?_⟩
  refine hi H ex_refl _ fun v H1 e1 hv => ?_
  obtain rfl := dp_int hv
  have o2 := o.up e1
  obtain ⟨xs, h1, h2⟩ := o2.at_
  have hl := h2.len
  obtain ⟨y, hy⟩ : ∃ y, xs[k]? = some y := ⟨_, List.getElem?_eq_getElem (by omega)⟩
  have k100 : k < 100000 := by omega
  refine ⟨l, xs, (k : Int), k, y, rfl, rfl, h1, ?_, ?_, ?_, hy, ?_⟩
  · have : (-(2 ^ 63) : Int) ≤ 0 := by decide
    omega
  · have : (100000 : Int) < 2 ^ 63 := by decide
    omega
  · have z := PySem.StrLaws.seqIndex_nonneg (i := (k : Int)) (n := xs.length) (by omega) (by omega)
    rw [z, Int.toNat_natCast]
  · refine kk _ (tex_tr (tex_of e1) (tex_upd h1)) (o2.put h1 ?_ ?_)
    · have er : ∀ {vs : List V} {es : List PyData} (n : Nat), DdAll K H1 vs es → DdAll K H1 (vs.eraseIdx n) (es.eraseIdx n) := fun {vs es} n g => by
        induction n generalizing vs es with
        | zero => cases g with
          | nil => exact .nil
          | cons g1 g2 => exact g2
        | succ n ih => cases g with
          | nil => exact .nil
          | cons g1 g2 => exact .cons g1 (ih g2)
      exact er k h2
    · exact tupOAll_sub o2.tup fun d hd => List.mem_of_mem_eraseIdx hd
end
def RBadW (ds : List PyData) (d : PyData) : Prop := ∃ (way : Nat) (i : Int) (b : List Nat), ds = [.int (way : Int), .str (txt (numI i))] ∧ i.natAbs ≤ 1000000000000000 ∧ badW b = true ∧ d = .str (txt b)
def spBadW (K : PySem.W.Frag) : Sp := fun vs H Q _ => ∃ (way : Int) (i : Int), vs = [.int way, .str (txt (numI i))] ∧ i.natAbs ≤ 1000000000000000 ∧ ∀ (b : List Nat) H2, Ex H H2 → badW b = true → Q (.str (txt b)) H2
def spBadT (K : PySem.W.Frag) : Sp := fun vs H Q _ => ∃ (W : Nat) (S : List Pt) (way : Int) (cell : Int), vs = [.str (txt (textL W S)), .int way, .int cell] ∧ TOk W S ∧ 1 ≤ S.length ∧ 0 ≤ way ∧ way < 50 ∧ 0 ≤ cell ∧ cell ≤ 1000000 ∧
  ∀ (b : List Nat) H2, Ex H H2 → parse b = none → b.length ≤ 80000 → Q (.str (txt b)) H2
def spRefT (K : PySem.W.Frag) : Sp := fun vs H Q _ => ∃ z : Str, vs = [.str z] ∧ z.length ≤ 80000 ∧ parse (tl z) = none ∧ ∀ H2, Ex H H2 → Q (.bl true) H2
def RANum (ds : List PyData) (d : PyData) : Prop := ∃ z : Str, ds = [.str z] ∧ z.length ≤ 80000 ∧ d = optI (numOf (tl z))
def writD : Option (Nat × List Pt) → PyData
  | none => .none
  | some (W, S) => .tuple [.int (W : Int), .list (S.map ptD)]
def RWrit (ds : List PyData) (d : PyData) : Prop := ∃ z : Str, ds = [.str z] ∧ z.length ≤ 40000 ∧ d = writD (parse (tl z))
def spOneSign (K : PySem.W.Frag) : Sp := fun vs H Q _ => ∃ (x : V) (ns : List Int) (z : Str), vs = [x, .str z] ∧ Scr K H x ns ∧ ns.length ≤ 1000 ∧ z.length ≤ 2000 ∧ ∀ H2, Ex H H2 → Q (.bl true) H2
end SF
namespace SF
open PySem PySem.Spec PyProof.Rows L2 TL NumText
theorem givD_zero {n : Nat} {f : Nat → Bool} {v : Nat → PyData} : (givD n f v).length = 0 ↔ ∀ i, i < n → f i = false := by
  unfold givD
  rw [List.length_map, List.length_eq_zero_iff, List.filter_eq_nil_iff]
  simp
theorem mem_ten {z : Str} (hz : tl z = [48, 49, 50, 51, 52, 53, 54, 55, 56, 57]) (c : Nat) : decide (c ∈ tl z) = digit c := by
  rw [hz]
  unfold digit
  rw [Bool.eq_iff_iff]
  simp
  omega
theorem all_digit {f : List Nat} {v : Nat → PyData} : decide ((0 : Int) < ((((givD f.length (fun i => !digit (f.getD i 0)) v).length : Nat) : Int))) = !f.all digit := by
  rw [Bool.eq_iff_iff]
  have h := givD_zero (n := f.length) (f := fun i => !digit (f.getD i 0)) (v := v)
  have e : f.all digit = true ↔ ∀ i, i < f.length → (!digit (f.getD i 0)) = false := by
    rw [List.all_eq_true]
    constructor
    · intro a i hi
      have := a (f.getD i 0) (by rw [List.getD_eq_getElem?_getD, List.getElem?_eq_getElem hi]; exact List.getElem_mem hi)
      rw [this]
      rfl
    · intro a x hx
      obtain ⟨i, hi, rfl⟩ := List.mem_iff_getElem.mp hx
      have := a i hi
      rw [List.getD_eq_getElem?_getD, List.getElem?_eq_getElem hi] at this
      simpa using this
  rw [← h] at e
  rw [decide_eq_true_eq, Bool.not_eq_true', ← Bool.not_eq_true, e]
  omega
end SF
namespace SF
open PySem PySem.Spec PyProof.Rows L2 TL NumText
theorem ex_of1 {l : Addr} {H H2 H' : Hp} (e : Ex H H2) (n : H l = none) (x : Ex1 l H2 H') : Ex H H' := fun b o hb => x b o (e b o hb) (by rintro rfl; rw [n] at hb; cases hb)
theorem allOf_none_in {α : Type} {f : α → Option Int} {l : List α} (h : (l.map f).contains none = true) : allOf f l = none := by
  have h : none ∈ l.map f := by simpa using h
  obtain ⟨a, ha, e⟩ := List.mem_map.mp h
  obtain ⟨i, hi, rfl⟩ := List.mem_iff_getElem.mp ha
  exact allOf_none (i := i) (List.getElem?_eq_getElem hi) e
theorem allOf_all_in {α : Type} {f : α → Option Int} {l : List α} (h : (l.map f).contains none = false) : ∃ ns : List Int, allOf f l = some ns ∧ l.map f = ns.map some := by
  have h' : none ∉ l.map f := by simpa using h
  obtain ⟨ns, e⟩ := allOf_of (f := f) (l := l) fun i a hi hn => h' (List.mem_map.mpr ⟨a, List.mem_of_getElem? hi, hn⟩)
  refine ⟨ns, e, ?_⟩
  obtain ⟨e1, e2⟩ := allOf_some e
  apply List.ext_getElem
  · simp [e1]
  · intro i h1 h2
    simp at h1
    obtain ⟨b, q1, q2⟩ := e2 i l[i] (List.getElem?_eq_getElem h1)
    have hb : i < ns.length := by omega
    rw [List.getElem?_eq_getElem hb] at q2
    injection q2 with q2
    simp [q1, q2]
theorem head_in {r : List Nat} {W : Nat} (h : headOf r = some (W : Int)) (h1 : 1 ≤ W) (h4 : W ≤ 4) : r ∈ [headL 1, headL 2, headL 3, headL 4] := by
  have e := head_of h (by omega) (by omega)
  rw [Int.toNat_natCast] at e
  have : W = 1 ∨ W = 2 ∨ W = 3 ∨ W = 4 := by omega
  rcases this with rfl | rfl | rfl | rfl <;> simp [e]
theorem head_out {r : List Nat} (h : r ∈ [headL 1, headL 2, headL 3, headL 4]) : ∃ W : Nat, 1 ≤ W ∧ W ≤ 4 ∧ r = headL W := by
  simp only [List.mem_cons, List.not_mem_nil, or_false] at h
  rcases h with rfl | rfl | rfl | rfl
  · exact ⟨1, by decide, by decide, rfl⟩
  · exact ⟨2, by decide, by decide, rfl⟩
  · exact ⟨3, by decide, by decide, rfl⟩
  · exact ⟨4, by decide, by decide, rfl⟩
theorem head_int {W : Nat} (h4 : W ≤ 4) {z : Str} (hz : tl z = (headL W).drop 6) : intText? z = some (W : Int) := by
  have e : tl z = [48 + W] := by
    rw [hz]
    unfold headL widL
    rw [numL_lt (by omega)]
    rfl
  have := PySem.intText_digits (x := z) (by
    rw [show z.cps.toList = [48 + W] from e]
    intro c hc
    rw [List.mem_singleton.mp hc]
    omega) (by rw [show z.cps.toList = [48 + W] from e]; simp) (by rw [len_tl, e]; simp)
  rw [this, show z.cps.toList = [48 + W] from e]
  simp [digitsVal]
end SF
namespace SF
open PySem PySem.Spec PyProof.Rows L2 TL NumText
theorem shaped_writ (w : Int) (S : List Pt) : SeqAt.shaped (.tuple [.int w, .list (S.map ptD)]) = true := by
  obtain ⟨c, d⟩ := pts_flat S
  have e : (PyData.tuple [.int w, .list (S.map ptD)]).depth ≤ 64 := by
    simp only [PyData.depth, PyData.depthAll]
    omega
  simp [SeqAt.shaped, PyData.canLay0, PyData.canLayAll0, c, e]
theorem eqv_writ (w : Int) (S : List Pt) : PyData.eqv (.tuple [.int w, .list (S.map ptD)]) (.tuple [.int w, .list (S.map ptD)]) = true := by
  rw [PyData.eqv, PyData.eqvAll, PyData.eqvAll, PyData.eqvAll, eqv_pts, PyData.eqv]
  simp
theorem cat_len (a b : Str) : (a ++ b).length = a.length + b.length := by rw [len_tl, tl_append, List.length_append, ← len_tl, ← len_tl]
section
variable {K : PySem.W.Frag} {σ : L2.St} {H : Hp} {E : XK} {ta tb tc : TE}
theorem ev_refT {z : Str} (h : EvD K ta σ H (.str z)) (hz : z.length ≤ 80000) (hp : parse (tl z) = none) : EvD K (tCall (spRefT K) [] E (tCons ta tNil)) σ H (.bool true) := fun H1 e Q q =>
  h H1 e _ fun v H2 e2 hv => by
    obtain rfl := dp_str hv
    exact ⟨z, rfl, hz, hp, fun H3 e3 => q _ H3 (ex_tr e2 e3) (.bl true)⟩
theorem ev_oneS {z : Str} {x : V} {ns : List Int} {i : Nat} (h0 : σ[i]? = some (some x)) (hx : Scr K H x ns) (hn : ns.length ≤ 1000) (h : EvD K tb σ H (.str z)) (hz : z.length ≤ 2000) : EvD K (tCall (spOneSign K) [] E (tCons (tVar i) (tCons tb tNil))) σ H (.bool true) := fun H1 e Q q =>
  ⟨x, h0, h H1 e _ fun v H2 e2 hv => by
    obtain rfl := dp_str hv
    exact ⟨x, ns, z, rfl, hx.up (ex_tr e e2), hn, hz, fun H3 e3 => q _ H3 (ex_tr e2 e3) (.bl true)⟩⟩
theorem er_badT {W : Nat} {S : List Pt} {way cell : Int} (h1 : EvD K ta σ H (.str (txt (textL W S)))) (h2 : EvD K tb σ H (.int way)) (h3 : EvD K tc σ H (.int cell)) (ok : TOk W S) (hS : 1 ≤ S.length) (w0 : 0 ≤ way) (w1 : way < 50) (c0 : 0 ≤ cell) (c1 : cell ≤ 1000000) :
    EvR (tCall (spBadT K) [] E (tCons ta (tCons tb (tCons tc tNil)))) σ H (fun v H' => ∃ b, v = .str (txt b) ∧ Ex H H' ∧ parse b = none ∧ b.length ≤ 80000) := fun Q q =>
  h1 H ex_refl _ fun v H1 e1 hv => h2 H1 e1 _ fun u H2 e2 hu => h3 H2 (ex_tr e1 e2) _ fun t H3 e3 ht => by
    obtain rfl := dp_str hv
    obtain rfl := dp_int hu
    obtain rfl := dp_int ht
    exact ⟨W, S, way, cell, rfl, ok, hS, w0, w1, c0, c1, fun b H4 e4 hb hl => q _ H4 ⟨b, rfl, ex_tr e1 (ex_tr e2 (ex_tr e3 e4)), hb, hl⟩⟩
end
end SF
namespace SF
open PySem PySem.Spec PyProof.Rows L2 TL NumText
section
variable {K : PySem.W.Frag} {σ : L2.St} {H : Hp} {ta tb te ti : TE} {D : Ends} {l : Addr} {xs : List V} {io : Nat} {ds : List PyData}
theorem Own.up1 {H0 H' : Hp} {l2 : Addr} (o : Own K H0 H l ds) (x : Ex1 l2 H H') (h2 : H l2 = some (.lst xs)) (n2 : H0 l2 = none) (ne : l ≠ l2) : Own K H0 H' l ds := by
  obtain ⟨ys, h, hd⟩ := o.at_
  exact ⟨o.new, ex_of1 o.ex n2 x, ⟨ys, x l _ h ne, hd.tx (tex1 x h2) o.tup⟩, o.tup⟩
theorem s_setB {j : Int} {n : Nat} (hl : H l = some (.lst xs)) (hd : DdAll K H xs ds) (ht : tupOAll ds = true) (ho : σ[io]? = some (some (.ref l))) (h : ∀ Q : VK, (∀ (b : List Nat) H1, Ex H H1 → badW b = true → Q (.str (txt b)) H1) → te σ H Q) (hi : EvD K ti σ H (.int j)) (hj : j = (n : Int)) (hn : n < ds.length)
    (k : ∀ b H1 ys, badW b = true → Ex1 l H H1 → H1 l = some (.lst ys) → DdAll K H1 ys (ds.set n (.str (txt b))) → D.nx σ H1) : tAsg te (gSub (tVar io) ti rSetL) D σ H := by
  refine h _ fun b H1 e1 hb => ⟨_, ho, ?_⟩
  refine hi H1 e1 _ fun w H2 e2 hw => ?_
  obtain rfl := dp_int hw
  have h2 := (ex_tr e1 e2) l _ hl
  refine ⟨l, xs, j, n, rfl, rfl, h2, ?_, ?_⟩
  · subst hj; exact Evl.ixN_nat (by rw [hd.len]; exact hn)
  · refine k b _ _ hb (ex1_tr (ex1_of (ex_tr e1 e2)) ex1_upd) upd_same ?_
    exact (DdAll.set (.str _) n (hd.up (ex_tr e1 e2))).tx (tex_upd h2) (tupOAll_set rfl n ht)
theorem s_pop1 {k : Nat} {i : Int} (hl : H l = some (.lst xs)) (hd : DdAll K H xs ds) (ht : tupOAll ds = true) (ho : σ[io]? = some (some (.ref l))) (hi : EvD K ti σ H (.int i)) (ei : i = (k : Int)) (hk : k < ds.length) (hz : ds.length < 100000)
    (kk : ∀ H1 ys, Ex1 l H H1 → H1 l = some (.lst ys) → DdAll K H1 ys (ds.eraseIdx k) → D.nx σ H1) : tDrop (tBM K "list" rPopAt (tVar io) (tCons ti tNil)) D σ H := by
  subst ei
  refine ⟨_, ho, Or.inl ⟨rfl, xs, SqL.of hl⟩, ?_⟩
  refine hi H ex_refl _ fun v H1 e1 hv => ?_
  obtain rfl := dp_int hv
  have h1 := e1 l _ hl
  have h2 := hd.up e1
  have hl' := h2.len
  obtain ⟨y, hy⟩ : ∃ y, xs[k]? = some y := ⟨_, List.getElem?_eq_getElem (by omega)⟩
  have k100 : k < 100000 := by omega
  refine ⟨l, xs, (k : Int), k, y, rfl, rfl, h1, ?_, ?_, ?_, hy, ?_⟩
  · have : (-(2 ^ 63) : Int) ≤ 0 := by decide
    omega
  · have : (100000 : Int) < 2 ^ 63 := by decide
    omega
  · have z := PySem.StrLaws.seqIndex_nonneg (i := (k : Int)) (n := xs.length) (by omega) (by omega)
    rw [z, Int.toNat_natCast]
  · refine kk _ _ (ex1_tr (ex1_of e1) ex1_upd) upd_same ?_
    have er : ∀ {vs : List V} {es : List PyData} (n : Nat), DdAll K H1 vs es → DdAll K H1 (vs.eraseIdx n) (es.eraseIdx n) := fun {vs es} n g => by
      induction n generalizing vs es with
      | zero => cases g with
        | nil => exact .nil
        | cons g1 g2 => exact g2
      | succ n ih => cases g with
        | nil => exact .nil
        | cons g1 g2 => exact .cons g1 (ih g2)
    exact (er k h2).tx (tex_upd h1) (tupOAll_sub ht fun d hd => List.mem_of_mem_eraseIdx hd)
theorem ef_repS {k : Int} (ha : EvF K ta σ H ds) (hb : EvD K tb σ H (.int k)) (h0 : 0 ≤ k) (h1 : k ≤ 1000) (hz : ds.length ≤ 100) : EvF K (tOp rMulA ta tb) σ H (List.replicate k.toNat ds).flatten := fun H1 e Q q =>
  ha H1 e _ fun l xs H2 hl e2 g2 g2' => hb H2 (ex_tr e e2) _ fun v H3 e3 hv => by
    obtain rfl := dp_int hv
    refine .inr ⟨l, k, xs, rfl, rfl, e3 l _ g2, by omega, by omega, ?_, fun p hp => ?_⟩
    · have a := g2'.len
      have b : xs.length * k.toNat ≤ 100 * 1000 := Nat.mul_le_mul (by omega) (by omega)
      exact Nat.le_trans b (by decide)
    · refine q p _ _ (ex_back (ex_tr e2 e3) hp) (ex_tr e2 (ex_tr e3 (ex_new hp))) upd_same ?_
      have key : ∀ {Hh : Hp} (n : Nat), DdAll K Hh xs ds → DdAll K Hh (List.replicate n xs).flatten (List.replicate n ds).flatten := fun {Hh} n g => by
        induction n with
        | zero => exact .nil
        | succ n ih =>
          rw [List.replicate_succ, List.replicate_succ, List.flatten_cons, List.flatten_cons]
          exact g.app ih
      exact key _ ((g2'.up e3).up (ex_new hp))
end
structure BadR (R : List (List Nat)) : Prop where
  ne : R ≠ []
  fr : ∀ r ∈ R, 10 ∉ r ∧ r.length ≤ 400
  n : R.length ≤ 20
  bad : parseR R = none
theorem BadR.parse {R : List (List Nat)} (h : BadR R) : parse (joinL [10] R) = none := (parse_rows h.ne fun r hr => (h.fr r hr).1).trans h.bad
theorem BadR.len {R : List (List Nat)} (h : BadR R) : (joinL [10] R).length ≤ 80000 := by
  have := joinL_len (s := 10) fun r hr => (h.fr r hr).2
  have : R.length * (400 + 1) ≤ 20 * 401 := Nat.mul_le_mul h.n (Nat.le_refl _)
  omega
theorem rowsL_free {W : Nat} {S : List Pt} : ∀ r ∈ rowsL W S, 10 ∉ r := fun r hr => by
  unfold rowsL at hr
  rcases List.mem_cons.mp hr with rfl | hr
  · exact headL_free (by decide)
  · obtain ⟨p, _, rfl⟩ := List.mem_map.mp hr
    exact rowL_free (by omega)
theorem TOk.fr {W : Nat} {S : List Pt} (h : TOk W S) : ∀ r ∈ rowsL W S, 10 ∉ r ∧ r.length ≤ 400 := fun r hr => ⟨rowsL_free r hr, by have := h.rows r hr; omega⟩
theorem badR_set {W : Nat} {S : List Pt} {i : Nat} {r : List Nat} (h : TOk W S) (hi : i < S.length) (h1 : 10 ∉ r) (h2 : r.length ≤ 400) (hb : stepOf W r = none) : BadR ((rowsL W S).set (i + 1) r) := by
  have n6 := h.n6
  refine ⟨by simp [rowsL], fun x hx => ?_, by simp [rowsL]; omega, ?_⟩
  · rcases List.mem_or_eq_of_mem_set hx with hx | rfl
    · exact h.fr x hx
    · exact ⟨h1, h2⟩
  · exact parseR_set (headOf_head h.w4) (by rw [List.length_map]; exact hi) hb
theorem badR_head {W : Nat} {S : List Pt} {r : List Nat} (h : TOk W S) (hb : badH r = true) : BadR ((rowsL W S).set 0 r) := by
  have n6 := h.n6
  obtain ⟨h1, h2, h3⟩ := parseR_badH (rest := S.map rowL) hb
  refine ⟨by simp [rowsL], fun x hx => ?_, by simp [rowsL]; omega, h3⟩
  rcases List.mem_or_eq_of_mem_set hx with hx | rfl
  · exact h.fr x hx
  · exact ⟨h2, by omega⟩
theorem badR_ins {W : Nat} {S : List Pt} {j : Nat} (h : TOk W S) (hj : j ≤ S.length) : BadR ((rowsL W S).take (j + 1) ++ [[]] ++ (rowsL W S).drop (j + 1)) := by
  have n6 := h.n6
  refine ⟨by simp, fun x hx => ?_, by simp [rowsL]; omega, ?_⟩
  · rw [List.append_assoc] at hx
    rcases List.mem_append.mp hx with hx | hx
    · exact h.fr x (List.mem_of_mem_take hx)
    · rcases List.mem_append.mp hx with hx | hx
      · rw [List.mem_singleton.mp hx]
        exact ⟨by simp, by simp⟩
      · exact h.fr x (List.mem_of_mem_drop hx)
  · have e : (rowsL W S).take (j + 1) ++ [[]] ++ (rowsL W S).drop (j + 1) = headL W :: ((S.map rowL).take j ++ [] :: (S.map rowL).drop j) := by
      unfold rowsL
      simp
    rw [e]
    refine parseR_bad (i := j) (r := []) (headOf_head h.w4) ?_ step_empty
    have hl : ((S.map rowL).take j).length = j := by rw [List.length_take, List.length_map]; omega
    rw [List.getElem?_append_right (by omega), hl, Nat.sub_self]
    rfl
theorem badR_six {W : Nat} {S : List Pt} {r : List Nat} (h : TOk W S) (hS : 1 ≤ S.length) (hr : r ∈ rowsL W S) : BadR (rowsL W S ++ List.replicate 6 r) := by
  have n6 := h.n6
  refine ⟨by simp, fun x hx => ?_, by simp [rowsL]; omega, ?_⟩
  · rcases List.mem_append.mp hx with hx | hx
    · exact h.fr x hx
    · rw [List.eq_of_mem_replicate hx]
      exact h.fr r hr
  · have e : rowsL W S ++ List.replicate 6 r = headL W :: (S.map rowL ++ List.replicate 6 r) := rfl
    rw [e]
    refine parseR_wide (headOf_head h.w4) fun z => ?_
    have z2 := z.2.2
    rw [List.length_append, List.length_map, List.length_replicate] at z2
    omega
theorem row_count {p : Pt} {W : Nat} (h1 : 1 ≤ W) (hl : p.length = W) : (rowL p).count 32 + 1 = W := by
  have hne : p ≠ [] := by rintro rfl; simp at hl; omega
  have := words_count (rowL p)
  rw [words_row hne, List.length_map, hl] at this
  exact this.symm
theorem step_pop {W k : Nat} {ws : List (List Nat)} (hl : ws.length = W) (hf : ∀ w ∈ ws, 32 ∉ w) (hk : k < W) : stepOf W (joinL [32] (ws.eraseIdx k)) = none := by
  by_cases he : ws.eraseIdx k = []
  · rw [he]
    exact step_empty
  · refine step_many ?_
    have c := count_joinL 32 _ he
    have z : ((ws.eraseIdx k).map (·.count 32)).sum = 0 := by
      have : ∀ x ∈ ws.eraseIdx k, x.count 32 ≤ 0 := fun x hx => by
        have := List.count_eq_zero.mpr (hf x (List.mem_of_mem_eraseIdx hx))
        omega
      have q : ((ws.eraseIdx k).map (·.count 32)).sum ≤ (ws.eraseIdx k).length * 0 := sum_le this
      rw [Nat.mul_zero] at q
      exact Nat.le_zero.mp q
    have e := List.length_eraseIdx_of_lt (l := ws) (i := k) (by omega)
    omega
theorem erase_map {α β : Type} (f : α → β) : ∀ (l : List α) (k : Nat), (l.map f).eraseIdx k = (l.eraseIdx k).map f
  | [], _ => rfl
  | a :: l, 0 => rfl
  | a :: l, k + 1 => by
    show f a :: (l.map f).eraseIdx k = f a :: (l.eraseIdx k).map f
    rw [erase_map f l k]
end SF
namespace SF
open PySem PySem.Spec PyProof.Rows L2
def topS (i : Nat) : Stmt := PySem.Challenge.pw_stepfield_k03_texts_refused.main.body.getD i (.Pass ⟨0, 0, 0, 0⟩)
section
variable {P : Program} {w : World} {K : PySem.W.Frag} {mg : Str → Option Value} {base : Heap}
abbrev s_Field___init__ : Stmt := inClass (topS 10) 0
theorem sc_Field___init__ : FnScope ["self", "width", "steps", "step"] ["self", "width", "steps"] (defScope s_Field___init__) := ⟨rfl, rfl, rfl, by decide +kernel, rfl, by decide +kernel, by decide +kernel⟩
theorem ok_Field___init__ {f C : Addr} {fd : FuncData} {tW tM : Tok} (F : Fun K "__init__" "Field.__init__" s_Field___init__ f fd) (T : Ctx P K mg base) (FC : FCls K C) (c_WIDEST : mg "WIDEST" = some (.int 4 tW)) (c_MOST_STEPS : mg "MOST_STEPS" = some (.int 6 tM)) : FnOk P w K mg base CX0 41 f fd ["self", "width", "steps"] (spInit C K) := by
  have sc := sc_Field___init__
  have B := T.bl
  refine F.ok sc (fun vs H Q E h => ?_) (fun cdv A outer s H vs Q E hr h => ?_)
  · obtain ⟨p, dx, x, W, S, ds, rfl, _⟩ := h
    rfl
  · obtain ⟨p, dx, x, W, S, ds, rfl, hp, hx, hh, hf, q⟩ := h
    refine ⟨_, (pss_cons (ps_if (pt_not (pt_chain op_le op_le pe_int (pv 1) (pe_glob (v := .int 4) (by rfl) c_WIDEST ⟨_, rfl⟩))) (pss_one ps_never) pss_nil)
      (pss_cons (ps_if (pt_cmpR op_gt (pe_callB (lenK K) (by rfl) B.len (by decide +kernel) (pa_cons (pv 2) pa_nil)) (pe_glob (v := .int 6) (by rfl) c_MOST_STEPS ⟨_, rfl⟩) (nomark _)) (pss_one ps_never) pss_nil)
      (pss_cons (ps_for PassesOwn.never rfl (piLT K (pv 2)) (pg_name (i := 3) sc.nd rfl (.inl rfl)) (pss_one (ps_if (pt_cmpR (neK K hr.units) (pe_callB (lenK K) (by rfl) B.len (by decide +kernel) (pa_cons (pv 3) pa_nil)) (pv 1) (nomark _)) (pss_one ps_never) pss_nil)))
      (pss_cons (ps_fld (pv 0) (pv 1) rfl)
      (pss_one (ps_fld (pv 0) (pe_lc (own := [("step", 3)]) rfl sc.nd (piLT K (pv 2)) (blkOk_by (own := [("step", 3)]) (N := ["self", "width", "steps", "step"]) (sc := defScope s_Field___init__) (by decide +kernel)) (fun _ _ _ _ _ => (pg_name (i := 3) sc.nd rfl (.inl rfl))) (fun _ _ _ _ _ => pts_nil) (fun _ _ _ _ _ => (pe_callTy (tupleK K) (by rfl) B.tuple (by decide +kernel) (pa_cons (pv 3) pa_nil)))) rfl)))))), ?_⟩
    have hlen : ds.length ≤ 6 := by rw [hh.1]; exact hf.n6
    have w1 := hf.w1
    have w4 := hf.w4
    refine s_seq (s_if (et_not (et_test K (ev_chain ev_cI (ev_varI rfl) (fun _ => ev_cI) rd_B0 fun _ => rd_B0))) (fun z => ?_) fun _ H1 e1 => s_next ?_)
    · exfalso
      simp at z
      omega
    refine s_seq (s_if (et_test K (ev_op (ev_cb (ea_cons (ev_var rfl (hx.up e1)) ea_nil) rc_lenL') ev_cI rd_B0)) (fun z => ?_) fun _ H2 e2 => s_next ?_)
    · exfalso
      simp at z
      omega
    have item : ∀ i d, ds[i]? = some d → (d = ptD (S.getD i []) ∨ d = plD (S.getD i [])) ∧ (S.getD i []).length = W := fun i d hd => by
      have hi := (List.getElem?_eq_some_iff.mp hd).1
      exact ⟨hh.2 i d hd, hf.len i (by rw [← hh.1]; exact hi)⟩
    refine s_seq (s_forV (eiv_list rfl hx) (ex_tr e1 e2) (fun i σ' H' => ∃ u, σ' = [some (.ref p), some (.int (W : Int)), some x, u] ∧ Ex H H') (fun H3 e3 => ⟨none, rfl, ex_tr e1 (ex_tr e2 e3)⟩) (fun i σ' H' _ ⟨_, _, e⟩ => e) ?_ ?_)
    · rintro i σ' σ'' H' H'' hi ⟨u, rfl, e⟩ e' ⟨y, d, hd, hy, rfl⟩
      obtain ⟨hk, hl⟩ := item i d hd
      have hlenE : EvD K (tCB (rLen K) (tCons (tVar 3) tNil)) [some (.ref p), some (.int (W : Int)), some x, some y] H'' (.int (W : Int)) := by
        rcases hk with rfl | rfl
        · exact (ev_cb (ea_cons (ev_var rfl hy) ea_nil) rc_lenT').to (by rw [List.length_map, hl])
        · exact (ev_cb (ea_cons (ev_var rfl hy) ea_nil) rc_lenL').to (by rw [List.length_map, hl])
      refine s_if (et_test K (ev_op hlenE (ev_varI rfl) (rd_ne rfl rfl))) (fun z => ?_) fun _ H3 e3 => s_next ⟨_, rfl, ex_tr e (ex_tr e' e3)⟩
      exfalso
      simp [PyData.eqv] at z
    · rintro σ' H3 ⟨u, rfl, e3⟩
      have hp3 := e3 p _ hp
      refine s_seq ?_
      refine ⟨_, rfl, _, rfl, p, C, dx, [], rfl, hp3, FC.cl, FC.nW, by show 0 < 1000; decide, ?_⟩
      have hx4 := dd_iex (iex_ins (o := .ins C dx (putF "width" (.int (W : Int)) [])) hp3) _ _ (hx.up e3)
      have hF : EvF K _ [some (.ref p), some (.int (W : Int)), some x, u] (upd H3 p (.ins C dx (putF "width" (.int (W : Int)) []))) (S.map ptD) :=
        EvF.to (ef_lc1 (fun i => ptD (S.getD i [])) (ei_list (ev_var (i := 2) rfl hx4)) (by omega) (hwB1 (j := 3) (vs := [3]) fun _ => rfl) (by
          rintro i H' σ' e hi ⟨y, d, hd, hy, rfl⟩
          obtain ⟨hk, hl⟩ := item i d hd
          refine ⟨?_, tupO_pt _⟩
          rcases hk with rfl | rfl
          · exact ev_cb (ea_cons (ev_var (i := 3) rfl hy) ea_nil) rc_tupleT
          · exact ev_cb (ea_cons (ev_var (i := 3) rfl hy) ea_nil) rc_tupleL)) (by
          refine range_map_eq hh.1 fun i hi => ?_
          rw [List.getD_eq_getElem?_getD, List.getElem?_eq_getElem hi]; rfl)
      refine s_fldF hF fun l ls H5 hl e5 g1 g2 => ?_
      have hp5 := e5 p _ upd_same
      have npl : l ≠ p := by rintro rfl; rw [hp5] at g1; cases g1
      refine ⟨_, rfl, p, C, dx, _, rfl, hp5, FC.cl, FC.nS, by show 1 < 1000; decide, ?_⟩
      have hlH : H l = none := by
        cases z : H l with
        | none => rfl
        | some o =>
          have h3 := e3 l o z
          have h4 : (upd H3 p (.ins C dx (putF "width" (.int (W : Int)) []))) l = some o := by rw [upd_ne npl]; exact h3
          rw [hl] at h4
          cases h4
      refine q _ l hlH ⟨dx, ls, upd_same, by rw [upd_ne npl]; exact g1, ddAll_iex (iex_ins hp5) _ _ g2⟩ fun b o hb hne => ?_
      rw [upd_ne hne]
      refine e5 b o ?_
      rw [upd_ne hne]
      exact e3 b o hb
abbrev s_number_of : Stmt := topS 13
theorem sc_number_of : FnScope ["word", "figures", "found", "sign", "place"] ["word"] (defScope s_number_of) := ⟨rfl, rfl, rfl, by decide +kernel, rfl, by decide +kernel, by decide +kernel⟩
theorem okx_number_of {f D : Addr} {fd : FuncData} {tM : Tok} (F : Fun K "number_of" "number_of" s_number_of f fd) (T : Ctx P K mg base) (E_NoField : ErrC K mg "NoField" D) (c_MOST_NUMBER : mg "MOST_NUMBER" = some (.int 1000000000000000 tM)) :
    FnOk P w K mg base (L2.CX P w) 41 f fd ["word"] (spNumX D K) := by
  have sc := sc_number_of
  have B := T.bl
  refine F.okX sc (fun vs H Q E h => ?_) (fun cdv A outer s H vs Q E hr h => ?_)
  · obtain ⟨z, rfl, _⟩ := h
    rfl
  · obtain ⟨z, rfl, hz, q1, q2⟩ := h
    refine ⟨_, (pss_cons (ps_set (i := 1) sc.nd rfl (.inl rfl) (pe_ifExp (pt_cmpR op_eq (pe_slice (slK K) (pv 0) po_none (po_some pe_int)) pe_str (nomark _)) (pe_slice (slK K) (pv 0) (po_some pe_int) po_none) (pv 0)))
      (pss_cons (ps_if (PW.pt (pw_or (pt_not (pt_chain op_le op_le pe_int (pe_callB call_len_str (by rfl) B.len (by decide +kernel) (pa_cons (pv 1) pa_nil)) pe_int)) (pw_or (PW.pt (pw_and (pt_cmpR op_gt (pe_callB call_len_str (by rfl) B.len (by decide +kernel) (pa_cons (pv 1) pa_nil)) pe_int (nomark _)) (pw_and1 (pt_cmpR op_eq (pe_ix (ixK K) (pv 1) pe_int (fun _ _ => rfl)) pe_str (nomark _))))) (pw_or1 (pt_cmpR op_eq (pv 0) pe_str (nomark _)))))) (pss_one (ps_raise rfl (takes_of rfl rfl rfl rfl) (pmk_own PySem.F.excBase_ValueError E_NoField.xX E_NoField.gX E_NoField.kX E_NoField.rs (by exact rfl)))) pss_nil)
      (pss_cons (ps_set (i := 2) sc.nd rfl (.inl rfl) pe_int)
      (pss_cons (ps_for (passes_of rfl) rfl (pi_str (pv 1)) (pg_name (i := 3) sc.nd rfl (.inl rfl)) (pss_cons (ps_set (i := 4) sc.nd rfl (.inl rfl) (pe_m1 PySem.F.slot_str_find PySem.F.type_str_find mt_find pe_str (pv 3)))
      (pss_cons (ps_if (pt_cmpR op_lt (pv 4) pe_int (nomark _)) (pss_one (ps_raise rfl (takes_of rfl rfl rfl rfl) (pmk_own PySem.F.excBase_ValueError E_NoField.xX E_NoField.gX E_NoField.kX E_NoField.rs (by exact rfl)))) pss_nil)
      (pss_one (ps_set (i := 2) sc.nd rfl (.inl rfl) (pe_op (addK K) (pe_op opMul pe_int (pv 2)) (pv 4)))))))
      (pss_cons (ps_if (pt_cmpR op_gt (pv 2) (pe_glob (v := .int 1000000000000000) (by rfl) c_MOST_NUMBER ⟨_, rfl⟩) (nomark _)) (pss_one (ps_raise rfl (takes_of rfl rfl rfl rfl) (pmk_own PySem.F.excBase_ValueError E_NoField.xX E_NoField.gX E_NoField.kX E_NoField.rs (by exact rfl)))) pss_nil)
      (pss_cons (ps_if (pt_cmpR op_eq (pe_ix (ixK K) (pv 0) pe_int (fun _ _ => rfl)) pe_str (nomark _)) (pss_one (ps_ret (pe_un un_neg (pv 2)))) pss_nil)
      (pss_one (ps_ret (pv 2))))))))), ?_⟩
    have lz : z.length ≤ 100000 := by omega
    generalize hw : TL.tl z = wd at q1 q2
    have zl : z.length = wd.length := by rw [TL.len_tl, hw]
    have n0 : (¬ (1 ≤ (figsOf wd).length ∧ (figsOf wd).length ≤ 16) ∨ (1 < (figsOf wd).length ∧ (figsOf wd).head? = some 48) ∨ wd = [45, 48]) → numOf wd = none := fun c => by
      unfold numOf
      rw [if_pos c]
    have n1 : ¬ (¬ (1 ≤ (figsOf wd).length ∧ (figsOf wd).length ≤ 16) ∨ (1 < (figsOf wd).length ∧ (figsOf wd).head? = some 48) ∨ wd = [45, 48]) → numOf wd = (if (figsOf wd).all digit = true then if 1000000000000000 < NumText.digitsVal (figsOf wd) then none else some (if wd.head? = some 45 then -((NumText.digitsVal (figsOf wd) : Nat) : Int) else ((NumText.digitsVal (figsOf wd) : Nat) : Int)) else none) := fun c => by
      unfold numOf
      rw [if_neg c]
    have d45 : TL.tl (Str.ofString "-") = [45] := by decide +kernel
    have d48 : TL.tl (Str.ofString "0") = [48] := by decide +kernel
    have d4548 : TL.tl (Str.ofString "-0") = [45, 48] := by decide +kernel
    have dten : TL.tl (Str.ofString "0123456789") = [48, 49, 50, 51, 52, 53, 54, 55, 56, 57] := by decide +kernel
    have fc := figs_cases wd
    have lf : (figsOf wd).length ≤ wd.length := by
      rcases fc with ⟨_, e⟩ | ⟨_, e⟩
      · have := congrArg List.length e
        simp at this
        omega
      · rw [e]; exact Nat.le_refl _
    have t1 : decide (TL.tl (cutS z none (some ((1 : Nat) : Int))) = TL.tl (Str.ofString "-")) = decide (wd.head? = some 45) := by
      rw [tl_cut_to, d45, hw]
      cases wd with
      | nil => rfl
      | cons c r => simp
    refine s_seq (s_asgS K (n := txt (figsOf wd)) (ev_if (b := decide (wd.head? = some 45)) (EvB.to (et_test K (ev_op (ev_slS (ev_varS rfl) eo_none (eo_some K ev_cI) lz) ev_cS rd_eqS)) ?_) (fun c => EvD.to (ev_slS (ev_varS rfl) (eo_some K ev_cI) eo_none lz) ?_) (fun c => EvD.to (ev_varS rfl) ?_)) fun H1 e1 => ?_)
    · exact t1
    · have c := of_decide_eq_true c
      congr 1
      apply TL.ext_tl
      have : TL.tl (cutS z (some ((1 : Nat) : Int)) none) = (TL.tl z).drop 1 := tl_cut_from
      refine this.trans ?_
      rw [hw]
      rcases fc with ⟨_, e⟩ | ⟨e, _⟩
      · rw [e]; rfl
      · exact absurd c e
    · have c := of_decide_eq_false c
      congr 1
      apply TL.ext_tl
      rcases fc with ⟨e, _⟩ | ⟨_, e⟩
      · exact absurd e c
      · rw [hw, tl_txt, e]
    have lx : (txt (figsOf wd)).length = (figsOf wd).length := txt_len _
    refine s_sq (s_if (b := decide (¬ (1 ≤ (figsOf wd).length ∧ (figsOf wd).length ≤ 16) ∨ (1 < (figsOf wd).length ∧ (figsOf wd).head? = some 48) ∨ wd = [45, 48]))
      (EvB.to (et_or (et_not (et_test K (ev_chain ev_cI (ev_cb (ea_cons (ev_varS rfl) ea_nil) (rc_lenS (by omega))) (fun _ => ev_cI) rd_B0 fun _ => rd_B0))) fun _ => et_or (et_and (et_test K (ev_op (ev_cb (ea_cons (ev_varS rfl) ea_nil) (rc_lenS (by omega))) ev_cI rd_B0)) fun c => et_test K (ev_op (ev_op (ev_varS rfl) ev_cI (rd_ixS (n := 0) (c := (figsOf wd).headD 0) rfl ?_ (by omega))) ev_cS rd_eqS)) fun _ => et_test K (ev_op (ev_varS rfl) ev_cS rd_eqS)) ?_) (fun c H2 e2 => ?_) fun c H2 e2 => s_next ?_)
    · have c := of_decide_eq_true c
      rw [lx] at c
      show (figsOf wd)[0]? = _
      cases e : figsOf wd with
      | nil => rw [e] at c; simp at c
      | cons a r => rfl
    · rw [lx, hw, d4548, d48]
      have h1 : decide (TL.tl (⟨#[(figsOf wd).headD 0]⟩ : Str) = [48]) = decide ((figsOf wd).head? = some 48) := by
        show decide ([(figsOf wd).headD 0] = [48]) = _
        cases figsOf wd with
        | nil => rfl
        | cons a r => simp
      have h2 : decide ((1 : Int) ≤ (((figsOf wd).length : Nat) : Int)) = decide (1 ≤ (figsOf wd).length) := decide_eq_decide.mpr (by omega)
      have h3 : decide ((((figsOf wd).length : Nat) : Int) ≤ 16) = decide ((figsOf wd).length ≤ 16) := decide_eq_decide.mpr (by omega)
      have h4 : decide ((1 : Int) < (((figsOf wd).length : Nat) : Int)) = decide (1 < (figsOf wd).length) := decide_eq_decide.mpr (by omega)
      rw [h1, h2, h3, h4]
      simp only [Bool.decide_or, decide_not, Bool.decide_and]
    · exact q2 (n0 (of_decide_eq_true c)) H2 (ex_tr e1 e2)
    have c0 := of_decide_eq_false c
    have n1 := n1 c0
    have e12 := ex_tr e1 e2
    refine s_sq (s_asgI K ev_cI fun H3 e3 => ?_)
    have e13 := ex_tr e12 e3
    refine s_sq (s_forI (ei_str K (ev_varS rfl)) (fun H4 i σ' H' => ∃ sg pl, σ' = [some (.str z), some (.str (txt (figsOf wd))), some (.int ((NumText.digitsVal ((figsOf wd).take i) : Nat) : Int)), sg, pl] ∧ ((figsOf wd).take i).all digit = true ∧ Ex H4 H')
      (fun H4 e4 => ⟨none, none, by rw [List.take_zero]; rfl, by simp, ex_refl⟩) (fun H4 i σ' H' _ h => by obtain ⟨_, _, _, _, h⟩ := h; exact h) ?_ ?_)
    · rintro H4 i σ' σ'' H' H'' e4 hi ⟨sg, pl, rfl, hd, e5⟩ e6 ⟨c, hc, rfl⟩
      have hc : (figsOf wd)[i]? = some c := by
        have : (figsOf wd).toArray[i]? = some c := hc
        simpa using this
      have e16 : Ex H H'' := ex_tr e13 (ex_tr e4 (ex_tr e5 e6))
      refine s_seq (s_asgI K (n := if digit c = true then (c : Int) - 48 else -1) (EvD.to (ev_find ev_cS (ev_varS rfl)) (by rw [find_fig dten])) fun H5 e7 => ?_)
      have e17 := ex_tr e16 e7
      refine s_sq (s_if (et_test K (ev_op (ev_varI rfl) ev_cI rd_B0)) (fun z2 H6 e8 => ?_) fun z2 H6 e8 => s_next ?_)
      · refine q2 ?_ H6 (ex_tr e17 e8)
        rw [n1, if_neg]
        intro hall
        rw [List.all_eq_true] at hall
        have := hall c (List.mem_of_getElem? hc)
        rw [if_pos this] at z2
        unfold digit at this
        simp at this z2
        omega
      · have hdc : digit c = true := by
          by_cases y : digit c = true
          · exact y
          · rw [if_neg y] at z2
            simp at z2
        rw [if_pos hdc]
        have hcb : 48 ≤ c ∧ c ≤ 57 := by
          unfold digit at hdc
          simpa using hdc
        refine s_asgI K (ev_op (ev_op ev_cI (ev_varI rfl) (rd_mulI (mulB_l ⟨by decide, by decide⟩))) (ev_varI rfl) rd_addI) fun H7 e9 => ?_
        have tk : (figsOf wd).take (i + 1) = (figsOf wd).take i ++ [c] := by
          rw [List.take_add_one, hc]
          rfl
        refine ⟨some (.str ⟨#[c]⟩), some (.int ((c : Int) - 48)), ?_, ?_, ex_tr e5 (ex_tr e6 (ex_tr e7 (ex_tr e8 e9)))⟩
        · rw [tk, dv_snoc]
          have : (10 * ((NumText.digitsVal ((figsOf wd).take i) : Nat) : Int) + ((c : Int) - 48)) = ((NumText.digitsVal ((figsOf wd).take i) * 10 + (c - 48) : Nat) : Int) := by omega
          rw [← this]
          rfl
        · rw [tk, List.all_append, hd]
          simp [hdc]
    · rintro H4 σ' H' e4 ⟨sg, pl, rfl, hd, e5⟩
      have sz : (txt (figsOf wd)).cps.size = (figsOf wd).length := by simp
      rw [sz, List.take_length] at hd ⊢
      rw [if_pos hd] at n1
      have e15 : Ex H H' := ex_tr e13 (ex_tr e4 e5)
      have hne : wd ≠ [] := by
        rintro rfl
        apply c0
        left
        simp [figsOf]
      refine s_sq (s_if (et_test K (ev_op (ev_varI rfl) ev_cI rd_B0)) (fun c H5 e6 => ?_) fun c H5 e6 => s_next ?_)
      · refine q2 ?_ H5 (ex_tr e15 e6)
        have c := of_decide_eq_true c
        rw [n1, if_pos (by omega)]
      have c2 : ¬ 1000000000000000 < NumText.digitsVal (figsOf wd) := by
        have c := of_decide_eq_false c
        omega
      rw [if_neg c2] at n1
      have e16 := ex_tr e15 e6
      refine s_sq (s_if (b := decide (wd.head? = some 45)) (EvB.to (et_test K (ev_op (ev_op (ev_varS rfl) ev_cI (rd_ixS (n := 0) (c := wd.headD 0) rfl ?_ lz)) ev_cS rd_eqS)) ?_) (fun c H6 e7 => ?_) fun c H6 e7 => s_next ?_)
      · rw [hw]
        cases wd with
        | nil => exact absurd rfl hne
        | cons a r => rfl
      · rw [d45]
        show decide ([wd.headD 0] = [45]) = _
        cases wd with
        | nil => rfl
        | cons a r => simp
      · refine s_ret (K := K) (ev_un (ev_varI rfl) ru_neg) fun v H7 e8 hv => ?_
        obtain rfl := dp_int hv
        refine q1 _ ?_ H7 (ex_tr e16 (ex_tr e7 e8))
        rw [n1, if_pos (of_decide_eq_true c)]
      · refine s_ret (K := K) (ev_varI rfl) fun v H7 e8 hv => ?_
        obtain rfl := dp_int hv
        refine q1 _ ?_ H7 (ex_tr e16 (ex_tr e7 e8))
        rw [n1, if_neg (of_decide_eq_false c)]
abbrev s_read : Stmt := topS 14
theorem sc_read : FnScope ["text", "rows", "head", "width", "steps", "row", "words", "word"] ["text"] (defScope s_read) := ⟨rfl, rfl, rfl, by decide +kernel, rfl, by decide +kernel, by decide +kernel⟩
theorem okx_read {f C D : Addr} {fd : FuncData} {tM tW : Tok} (F : Fun K "read" "read" s_read f fd) (T : Ctx P K mg base) (E_NoField : ErrC K mg "NoField" D) (c_MOST_STEPS : mg "MOST_STEPS" = some (.int 6 tM)) (c_WIDEST : mg "WIDEST" = some (.int 4 tW)) (M_Field : CalM P w K mg base 41 "Field" C ["self", "width", "steps"] (spInit C K)) (X_number_of : CalX P w K mg base 41 "number_of" ["word"] (spNumX D K)) :
    FnOk P w K mg base (L2.CX P w) 43 f fd ["text"] (spReadX C D K) := by
  have sc := sc_read
  have B := T.bl
  refine F.okX sc (fun vs H Q E h => ?_) (fun cdv A outer s H vs Q E hr h => ?_)
  · obtain ⟨z, rfl, _⟩ := h
    rfl
  · obtain ⟨z, rfl, hz, q1, q2⟩ := h
    refine ⟨_, (pss_cons (ps_set (i := 1) sc.nd rfl (.inl rfl) (pe_split (pv 0) pe_str))
      (pss_cons (ps_set (i := 2) sc.nd rfl (.inl rfl) (pe_split (pe_ix (ixK K) (pv 1) pe_int (fun _ _ => rfl)) pe_str))
      (pss_cons (ps_if (PW.pt (pw_or (pt_cmpR (neK K hr.units) (pe_callB (lenK K) (by rfl) B.len (by decide +kernel) (pa_cons (pv 2) pa_nil)) pe_int (nomark _)) (pw_or1 (pt_cmpR op_ne (pe_ix (ixK K) (pv 2) pe_int (fun _ _ => rfl)) pe_str (nomark _))))) (pss_one (ps_raise rfl (takes_of rfl rfl rfl rfl) (pmk_own PySem.F.excBase_ValueError E_NoField.xX E_NoField.gX E_NoField.kX E_NoField.rs (by exact rfl)))) pss_nil)
      (pss_cons (ps_set (i := 3) sc.nd rfl (.inl rfl) (pe_calX X_number_of hr (by decide) (takes_of rfl rfl rfl rfl) (by rfl) (pa_cons (pe_ix (ixK K) (pv 2) pe_int (fun _ _ => rfl)) pa_nil)))
      (pss_cons (ps_if (PW.pt (pw_or (pt_not (pt_chain op_le op_le pe_int (pv 3) (pe_glob (v := .int 4) (by rfl) c_WIDEST ⟨_, rfl⟩))) (pw_or1 (pt_cmpR op_gt (pe_callB (lenK K) (by rfl) B.len (by decide +kernel) (pa_cons (pv 1) pa_nil)) (pe_op (addK K) (pe_glob (v := .int 6) (by rfl) c_MOST_STEPS ⟨_, rfl⟩) pe_int) (nomark _))))) (pss_one (ps_raise rfl (takes_of rfl rfl rfl rfl) (pmk_own PySem.F.excBase_ValueError E_NoField.xX E_NoField.gX E_NoField.kX E_NoField.rs (by exact rfl)))) pss_nil)
      (pss_cons (ps_set (i := 4) sc.nd rfl (.inl rfl) (pe_lst pa_nil))
      (pss_cons (ps_for (passes_of rfl) rfl (piLT K (pe_slice (slK K) (pv 1) (po_some pe_int) po_none)) (pg_name (i := 5) sc.nd rfl (.inl rfl)) (pss_cons (ps_set (i := 6) sc.nd rfl (.inl rfl) (pe_split (pv 5) pe_str))
      (pss_cons (ps_if (pt_cmpR (neK K hr.units) (pe_callB (lenK K) (by rfl) B.len (by decide +kernel) (pa_cons (pv 6) pa_nil)) (pv 3) (nomark _)) (pss_one (ps_raise rfl (takes_of rfl rfl rfl rfl) (pmk_own PySem.F.excBase_ValueError E_NoField.xX E_NoField.gX E_NoField.kX E_NoField.rs (by exact rfl)))) pss_nil)
      (pss_one (ps_expr (pe_bm PySem.F.plainAttrs_list PySem.F.slot_list_append PySem.F.type_list_append mt_append (pv 4) (pa_cons (pe_lcX (own := [("word", 7)]) rfl rfl (takes_of rfl rfl rfl rfl) rfl sc.nd (piLT K (pv 6)) (blkOk_by (own := [("word", 7)]) (N := ["text", "rows", "head", "width", "steps", "row", "words", "word"]) (sc := defScope s_read) (by decide +kernel)) (fun _ _ _ _ _ => (pg_name (i := 7) sc.nd rfl (.inl rfl))) (fun _ _ _ _ _ => pts_nil) (fun _ _ _ _ _ _ _ hp_ => (pe_calXE X_number_of hr (by decide) hp_ (by rfl) (pa_cons (pv 7) pa_nil)))) pa_nil)))))))
      (pss_one (ps_ret (pe_mkF M_Field hr (by decide) (by rfl) (pa_cons (pv 3) (pa_cons (pv 4) pa_nil)))))))))))), ?_⟩
    generalize hw : TL.tl z = t at q1 q2
    have zl : z.length = t.length := by rw [TL.len_tl, hw]
    have d10 : TL.tl (Str.ofString "\n") = [10] := by decide +kernel
    have d32 : TL.tl (Str.ofString " ") = [32] := by decide +kernel
    have dwid : TL.tl (Str.ofString "width") = widL := by decide +kernel
    have l10 : ((Str.ofString "\n").length == 0) = false := by decide +kernel
    have l32 : ((Str.ofString " ").length == 0) = false := by decide +kernel
    obtain ⟨r0, rest, hrs⟩ : ∃ r0 rest, rowsOf t = r0 :: rest := by
      cases e : rowsOf t with
      | nil => exact absurd e (spl_pos _ _ _ _)
      | cons a r => exact ⟨a, r, rfl⟩
    have rl : ∀ r ∈ r0 :: rest, r.length ≤ 80000 := fun r hr => by
      have := row_len (t := t) (r := r) (by rw [hrs]; exact hr)
      omega
    have nr : (r0 :: rest).length ≤ 80001 := by
      have := spl_many [10] t [] 0
      have e : TL.spl [10] 0 [] t = r0 :: rest := hrs
      rw [e] at this
      omega
    have pz : parse t = parseR (r0 :: rest) := by unfold parse; rw [hrs]
    rw [pz] at q1 q2
    have splitE : ∀ {σ : L2.St} {H' : Hp} {ta : TE} {r : List Nat}, EvD K ta σ H' (.str (txt r)) → r.length ≤ 80000 → EvF K (tM1 rSplit ta (tC (.str (Str.ofString " ")))) σ H' ((wordsOf r).map fun l => PyData.str (txt l)) := fun h hl =>
      EvF.to (ef_split h ev_cS l32 (by rw [txt_len]; omega)) (by rw [split_words d32, strs_D])
    refine s_seq (s_asgF (K := K) (EvF.to (ef_split (ev_varS rfl) ev_cS l10 (by omega)) (by rw [split_rows d10, hw, hrs, strs_D])) fun p1 xs1 H1 hp1 e1 g1 g1' => ?_)
    have dR : Dd K H1 (.ref p1) (.list ((r0 :: rest).map fun l => PyData.str (txt l))) := .lst (SqL.of g1) g1'
    refine s_sq (s_asgF (K := K) (splitE (r := r0) (ev_op (ev_var rfl dR) ev_cI (rd_ixL (n := 0) rfl rfl)) (rl r0 (by simp))) fun p2 xs2 H2 hp2 e2 g2 g2' => ?_)
    have dW : Dd K H2 (.ref p2) (.list ((wordsOf r0).map fun l => PyData.str (txt l))) := .lst (SqL.of g2) g2'
    have e12 := ex_tr e1 e2
    have lenW : ∀ {σ : L2.St} {H' : Hp} {i : Nat} {p : Addr} {ls : List (List Nat)}, σ[i]? = some (some (.ref p)) → Dd K H' (.ref p) (.list (ls.map fun l => PyData.str (txt l))) → EvD K (tCB (rLen K) (tCons (tVar i) tNil)) σ H' (.int (ls.length : Nat)) := fun h d =>
      EvD.to (ev_cb (ea_cons (ev_var h d) ea_nil) rc_lenL') (by rw [List.length_map])
    have atW : ∀ {σ : L2.St} {H' : Hp} {i : Nat} {p : Addr} {ls : List (List Nat)} {k : Nat} {w : List Nat}, σ[i]? = some (some (.ref p)) → Dd K H' (.ref p) (.list (ls.map fun l => PyData.str (txt l))) → ls[k]? = some w → EvD K (tOp (rIx K) (tVar i) (tC (.int (k : Int)))) σ H' (.str (txt w)) := fun h d hk =>
      ev_op (ev_var h d) ev_cI (rd_ixL rfl (by rw [List.getElem?_map, hk]; rfl))
    refine s_sq (s_if (b := decide (¬ ((wordsOf r0).length = 2 ∧ (wordsOf r0).headD [] = widL))) (EvB.to (et_or (et_test K (ev_op (lenW rfl dW) ev_cI (rd_ne rfl rfl))) fun c => et_test K (ev_op (atW (k := 0) (w := (wordsOf r0).headD []) rfl dW ?_) ev_cS rd_neS)) ?_) (fun c H3 e3 => ?_) fun c H3 e3 => s_next ?_)
    · rw [eqv_intD] at c
      simp at c
      cases e : wordsOf r0 with
      | nil => rw [e] at c; simp at c
      | cons a r => rfl
    · rw [eqv_intD, dwid, tl_txt]
      have h1 : decide ((((wordsOf r0).length : Nat) : Int) = 2) = decide ((wordsOf r0).length = 2) := decide_eq_decide.mpr (by omega)
      rw [h1]
      simp only [decide_not, Bool.decide_and, Bool.not_and]
    · have c := of_decide_eq_true c
      refine q2 (parseR_head ?_) H3 (ex_tr e12 e3)
      unfold headOf
      split
      · rename_i h w e
        rw [if_neg]
        rintro rfl
        exact c ⟨by rw [e]; rfl, by rw [e]; rfl⟩
      · rfl
    have c0 := Decidable.not_not.mp (of_decide_eq_false c)
    obtain ⟨w1, hw1⟩ : ∃ w1, wordsOf r0 = [widL, w1] := by
      match e : wordsOf r0, c0 with
      | [a, b], ⟨_, h⟩ => exact ⟨b, by rw [show a = widL from h]⟩
    have hH : headOf r0 = numOf w1 := by
      unfold headOf
      rw [hw1]
      simp
    have lw1 : w1.length ≤ 80000 := by
      have := word_len (r := r0) (w := w1) (by rw [hw1]; simp)
      have := rl r0 (by simp)
      omega
    have e13 := ex_tr e12 e3
    refine s_sq (s_asgX (atW (k := 1) (w := w1) rfl (dW.up e3) (by rw [hw1]; rfl)) (by rw [txt_len]; omega) (fun n hn H4 e4 => ?_) fun hn H4 e4 => q2 (parseR_head (hH.trans hn)) H4 (ex_tr e13 e4))
    have hH : headOf r0 = some n := hH.trans hn
    have e14 := ex_tr e13 e4
    have dR4 := dR.up (ex_tr e2 (ex_tr e3 e4))
    refine s_sq (s_if (b := decide (¬ (1 ≤ n ∧ n ≤ 4 ∧ rest.length ≤ 6))) (EvB.to (et_or (et_not (et_test K (ev_chain ev_cI (ev_varI rfl) (fun _ => ev_cI) rd_B0 fun _ => rd_B0))) fun _ => et_test K (ev_op (lenW rfl dR4) (ev_op ev_cI ev_cI rd_addI) rd_B0)) ?_) (fun c H5 e5 => q2 (parseR_wide hH (of_decide_eq_true c)) H5 (ex_tr e14 e5)) fun c H5 e5 => s_next ?_)
    · have h1 : decide ((6 : Int) + 1 < (((r0 :: rest).length : Nat) : Int)) = !decide (rest.length ≤ 6) := by
        rw [← decide_not]
        exact decide_eq_decide.mpr (by rw [List.length_cons]; omega)
      rw [h1]
      simp only [decide_not, Bool.decide_and, Bool.not_and, Bool.or_assoc]
    have c1 := Decidable.not_not.mp (of_decide_eq_false c)
    have e15 := ex_tr e14 e5
    have nW : n = ((n.toNat : Nat) : Int) := by omega
    refine s_sq (s_asgF (K := K) (ds := []) (ef_lst ea_nil (by simp)) fun l xs0 H6 hl6 e6 g6 g6' => ?_)
    cases g6'
    have e16 := ex_tr e15 e6
    have hl : H l = none := ex_back e15 hl6
    have dR6 := dR4.up (ex_tr e5 e6)
    refine s_sq (s_for1 (l := l) (n := rest.length) (B := B1 K 5 (rest.map fun r => PyData.str (txt r))) ?_ (fun H7 i σ' H' => ∃ rw wd S, σ' = [some (.str z), some (.ref p1), some (.ref p2), some (.int n), some (.ref l), rw, wd, none] ∧ allOf (stepOf n.toNat) (rest.take i) = some S ∧ OwnP H H' l S ∧ Ex1 l H7 H')
      (fun H7 e7 => ⟨none, none, [], rfl, rfl, ⟨hl, ex_tr e16 e7, [], rfl, e7 l _ g6, fun t p d hp _ => by simp at hp⟩, ex1_of ex_refl⟩) (fun H7 i σ' H' _ h => by obtain ⟨_, _, _, _, _, _, h⟩ := h; exact h) ?_ ?_)
    · have h := ei1_list (K := K) (j := 5) (σ := [some (V.str z), some (.ref p1), some (.ref p2), some (.int n), some (.ref l), none, none, none]) g6 (ef_sl (tl := tPart (tC (.int 1))) (th := tNoPart) (lo := some ((1 : Nat) : Int)) (hi := none) (ev_var (i := 1) rfl dR6) (eo_some K ev_cI) eo_none) (by
        rw [cutD_drop]
        exact tupO_strs rest)
      rw [cutD_drop] at h
      have el : (List.drop 1 (List.map (fun l => PyData.str (txt l)) (r0 :: rest))).length = rest.length := by simp
      rw [el] at h
      exact h
    · rintro H7 i σ' σ'' H' H'' e7 hi ⟨rw', wd', S, rfl, hS, o, x1⟩ e8 ⟨u, d, hd, hu, rfl⟩
      obtain ⟨r, hr', rfl⟩ := map_got hd
      obtain rfl := dp_str hu
      have lr : r.length ≤ 80000 := rl r (List.mem_cons_of_mem _ (List.mem_of_getElem? hr'))
      have o8 := o.up e8
      refine s_seq (s_asgF (K := K) (splitE (r := r) (ev_varS rfl) lr) fun p3 xs3 H9 hp3 e9 g9 g9' => ?_)
      have dw : Dd K H9 (.ref p3) (.list ((wordsOf r).map fun l => PyData.str (txt l))) := .lst (SqL.of g9) g9'
      have o9 := o8.up e9
      refine s_sq (s_if (b := decide (¬ ((wordsOf r).length = n.toNat))) (EvB.to (et_test K (ev_op (lenW rfl dw) (ev_varI rfl) (rd_ne rfl rfl))) ?_) (fun c H10 e10 => ?_) fun c H10 e10 => s_next ?_)
      · rw [eqv_intD, ← decide_not]
        exact decide_eq_decide.mpr (by omega)
      · refine q2 (parseR_bad hH hr' ?_) H10 (ex_tr o9.ex e10)
        unfold stepOf
        rw [if_neg (of_decide_eq_true c)]
      have hlen := Decidable.not_not.mp (of_decide_eq_false c)
      have o10 := o9.up e10
      have hst : stepOf n.toNat r = allOf numOf (wordsOf r) := by
        unfold stepOf
        rw [if_pos hlen]
      have wl : ∀ w ∈ wordsOf r, w.length ≤ 90000 := fun w hw => by
        have := word_len hw
        omega
      obtain ⟨ys, hy, _⟩ := o10.list
      refine ⟨_, rfl, Or.inl ⟨rfl, ys, SqL.of hy⟩, ?_⟩
      refine t_cons1 (wordsX (ws := wordsOf r) (ei_list (EvD.to (ev_var (i := 6) rfl (dw.up e10)) rfl) |> fun h => by rw [List.length_map] at h; exact h) (by have := wordsOf_many r; omega) wl (fun _ => rfl) (fun _ => rfl) (fun ns hns p ns' H11 hp e11 g11 hx => ?_) fun hno H11 e11 => q2 (parseR_bad hH hr' (hst.trans hno)) H11 (ex_tr o10.ex e11))
      subst hx
      have o11 := o10.up e11
      have hy11 := e11 l _ hy
      have npl : p ≠ l := by rintro rfl; rw [hy] at hp; cases hp
      have hSl := (allOf_some hS).1
      rw [List.length_take] at hSl
      refine ⟨l, ys, .ref p, rfl, rfl, hy11, ?_, ?_⟩
      · obtain ⟨ys', q, z⟩ := o11.list
        rw [hy11] at q
        injection q with q
        injection q with q
        subst q
        exact Evl.sz_lt (by omega)
      · have tk : rest.take (i + 1) = rest.take i ++ [r] := by
          rw [List.take_add_one, hr']
          rfl
        refine ⟨_, _, S ++ [ns], rfl, ?_, o11.app hy11 g11 npl, ex1_tr x1 (ex1_tr (ex1_of (ex_tr e8 (ex_tr e9 (ex_tr e10 e11)))) ex1_upd)⟩
        rw [tk]
        exact allOf_snoc hS (hst.trans hns)
    · rintro H7 σ' H' e7 ⟨rw', wd', S, rfl, hS, o, x1⟩
      rw [List.take_length] at hS
      have hp := parseR_yes hH c1 hS
      have hb := (allOf_some hS).1
      have fok : FOk n.toNat S := ⟨by omega, by omega, by omega, fun k hk => by
        obtain ⟨b, q, q'⟩ := (allOf_some hS).2 k rest[k] (List.getElem?_eq_getElem (by omega))
        rw [List.getD_eq_getElem?_getD, q']
        exact stepOf_len q⟩
      refine s_retM (ev_make (C := C) (W := n.toNat) (S := S) (ds := S.map plD) (ea_cons (EvD.to (ev_varI rfl) (by rw [← nW])) (ea_cons (ev_var rfl o.dd) ea_nil)) (handed_pls S) fok) fun a H8 ha e8 hF => q1 _ _ hp a H8 (ex_back o.ex ha) (ex_tr o.ex e8) hF
theorem ok_read {f C D : Addr} {fd : FuncData} {tM tW : Tok} (F : Fun K "read" "read" s_read f fd) (T : Ctx P K mg base) (E_NoField : ErrC K mg "NoField" D) (c_MOST_STEPS : mg "MOST_STEPS" = some (.int 6 tM)) (c_WIDEST : mg "WIDEST" = some (.int 4 tW)) (M_Field : CalM P w K mg base 41 "Field" C ["self", "width", "steps"] (spInit C K)) (X_number_of : CalX P w K mg base 41 "number_of" ["word"] (spNumX D K)) :
    FnOk P w K mg base CX0 43 f fd ["text"] (spRead C K) := by
  refine FnOk.imp (FnOk.calm (okx_read F T E_NoField c_MOST_STEPS c_WIDEST M_Field X_number_of)) fun vs H Q E h => ?_
  obtain ⟨z, W, S, rfl, hz, hp, q⟩ := h
  refine ⟨z, rfl, hz, fun W' S' hp' => ?_, fun hn => ?_⟩
  · rw [hp] at hp'
    cases hp'
    exact q
  · rw [hp] at hn
    cases hn
abbrev s__law_cell_at : Stmt := topS 16
theorem sc__law_cell_at : FnScope ["script", "k"] ["script", "k"] (defScope s__law_cell_at) := ⟨rfl, rfl, rfl, by decide +kernel, rfl, by decide +kernel, by decide +kernel⟩
theorem ok__law_cell_at {f : Addr} {fd : FuncData} (F : Fun K "_law_cell_at" "_law_cell_at" s__law_cell_at f fd) (T : Ctx P K mg base) : FnOk P w K mg base CX0 41 f fd ["script", "k"] (spD K RCell) := by
  have sc := sc__law_cell_at
  have B := T.bl
  refine F.ok sc (fun vs H Q E h => ?_) (fun cdv A outer s H vs Q E hr h => ?_)
  · obtain ⟨ds, d, hv, ⟨ns, k, rfl, _⟩, _⟩ := h
    exact hv.len
  · obtain ⟨ds, d, hv, ⟨ns, k, rfl, rfl, hn⟩, q⟩ := h
    obtain ⟨x, y, rfl, hx, hy⟩ := dd2 hv
    obtain rfl := dp_int hy
    refine ⟨_, (pss_cons (ps_if (pt_cmpR op_lt (pv 1) (pe_callB (lenK K) (by rfl) B.len (by decide +kernel) (pa_cons (pv 0) pa_nil)) (nomark _)) (pss_one (ps_ret (pe_ix (ixK K) (pv 0) (pv 1) (fun _ _ => rfl)))) pss_nil)
      (pss_one (ps_ret pe_int))), ?_⟩
    refine q_when (et_test K (ev_op (ev_varI rfl) (EvD.to (ev_cb (ea_cons (ev_var rfl hx) ea_nil) rc_lenL') (by rw [List.length_map])) rd_B0)) (fun hc H1 e1 => ?_) fun hc H1 e1 => ?_
    · refine s_ret (ev_plAt (ev_var rfl (hx.up e1)) (ev_varI rfl) rfl (by simpa using hc)) fun v H2 e2 hv => ?_
      exact q v H2 (ex_tr e1 e2) hv
    · refine s_ret (K := K) (d := .int (vf ns k)) (EvD.to (ev_cI (n := 0)) ?_) fun v H2 e2 hv => q v H2 (ex_tr e1 e2) hv
      rw [vf_beyond (by simpa using hc)]
abbrev s__law_next : Stmt := topS 17
theorem sc__law_next : FnScope ["script", "spot"] ["script", "spot"] (defScope s__law_next) := ⟨rfl, rfl, rfl, by decide +kernel, rfl, by decide +kernel, by decide +kernel⟩
theorem ok__law_next {f : Addr} {fd : FuncData} (F : Fun K "_law_next" "_law_next" s__law_next f fd) (T : Ctx P K mg base) (C__law_cell_at : Cal P w K mg base 41 "_law_cell_at" ["script", "k"] (spD K RCell)) : FnOk P w K mg base CX0 42 f fd ["script", "spot"] (spNext K) := by
  have sc := sc__law_next
  have B := T.bl
  refine F.ok sc (fun vs H Q E h => ?_) (fun cdv A outer s H vs Q E hr h => ?_)
  · obtain ⟨x, sp, ns, p, rfl, _⟩ := h
    rfl
  · obtain ⟨x, sp, ns, p, rfl, hx, hn, hs, q⟩ := h
    refine ⟨_, (pss_cons (ps_asg (pe_op (addK K) (pe_ix (ixK K) (pv 1) pe_int (fun _ _ => rfl)) pe_int) (pg_sub (pv 1) pe_int set_list))
      (pss_one (ps_ret (pe_cal C__law_cell_at hr (by decide) (by rfl) (pa_cons (pv 0) (pa_cons (pe_op op_sub (pe_ix (ixK K) (pv 1) pe_int (fun _ _ => rfl)) pe_int) pa_nil)))))), ?_⟩
    have hd : DdAll K H [V.int (p : Int)] ([(p : Int)].map PyData.int) := DdAll.ints [(p : Int)]
    refine s_seq (s_set1 hs hd rfl rfl (ev_op (ev_plAt (p := [(p : Int)]) (n := 0) (EvV.dd (ev_v (i := 1) rfl) (.lst (SqL.of hs) hd)) ev_cI rfl (by simp)) ev_cI rd_addI) rfl ev_cI (n := 0) rfl (by simp) fun H1 ys e1 h1 h2 => ?_)
    have h2' : DdAll K H1 ys ([((p + 1 : Nat) : Int)].map PyData.int) := h2
    have ey := dp_ints h2'
    subst ey
    refine s_ret (ev_call (ea_cons (ev_var rfl (hx.up1 e1 hs).dd) (ea_cons (ev_op (ev_plAt (p := [((p + 1 : Nat) : Int)]) (n := 0) (EvV.dd (ev_v (i := 1) rfl) (.lst (SqL.of h1) h2')) ev_cI rfl (by simp)) ev_cI rd_I0) ea_nil)) (spD_go ⟨ns, p, by simp [vf], rfl, hn⟩)) fun v H2 e2 hv => ?_
    obtain rfl := dp_int hv
    exact q H2 (ex1_tr e1 (ex1_of e2)) (e2 sp _ h1)
abbrev s__law_number : Stmt := topS 18
theorem sc__law_number : FnScope ["cell", "great", "left"] ["cell", "great"] (defScope s__law_number) := ⟨rfl, rfl, rfl, by decide +kernel, rfl, by decide +kernel, by decide +kernel⟩
theorem ok__law_number {f : Addr} {fd : FuncData} (F : Fun K "_law_number" "_law_number" s__law_number f fd) (T : Ctx P K mg base) : FnOk P w K mg base CX0 41 f fd ["cell", "great"] (spNum K) := by
  have sc := sc__law_number
  have B := T.bl
  refine F.ok sc (fun vs H Q E h => ?_) (fun cdv A outer s H vs Q E hr h => ?_)
  · obtain ⟨c, g, rfl, _⟩ := h
    rfl
  · obtain ⟨c, g, rfl, q⟩ := h
    refine ⟨_, (pss_cons (ps_set (i := 2) sc.nd rfl (.inl rfl) (pe_op op_fdivN (pv 0) pe_int))
      (pss_cons (ps_if (pt_cmpR op_lt (pe_op op_modN (pv 0) pe_int) pe_int (nomark _)) (pss_one (ps_ret (pe_op op_sub (pe_op op_modN (pv 2) pe_int) pe_int))) pss_nil)
      (pss_cons (ps_if (pt_cmpR (eqK K hr.units) (pe_op op_modN (pv 0) pe_int) pe_int (nomark _)) (pss_one (ps_ret pe_int)) pss_nil)
      (pss_cons (ps_if (PW.pt (pw_and (pt_val (pv 1)) (pw_and1 (pt_cmpR (eqK K hr.units) (pe_op op_modN (pv 0) pe_int) pe_int (nomark _))))) (pss_one (ps_ret (pe_op op_sub (pe_op op_modN (pv 2) (pe_op (addK K) (pe_op opMul pe_int (pe_op op_pow pe_int pe_int)) pe_int)) (pe_op op_pow pe_int pe_int)))) pss_nil)
      (pss_one (ps_ret (pe_op op_sub (pe_op op_modN (pv 2) pe_int) pe_int))))))), ?_⟩
    have mo : ∀ {k : Int} {a : Int}, k ≠ 0 → RD K (rI (fun _ j => j ≠ 0) fun i j => .int (i.fmod j)) (.int a) (.int k) (.int (a.fmod k)) := fun h => rd_I h
    refine s_seq (s_asgI K (ev_op (ev_varI rfl) ev_cI (rd_I ⟨by decide, by decide⟩)) fun H1 e1 => s_seq ?_)
    refine s_if (et_test K (ev_op (ev_op (ev_varI rfl) ev_cI (mo (by decide))) ev_cI rd_B0)) (fun _ H2 e2 => ?_) fun _ H2 e2 => s_next (s_seq ?_)
    · refine s_ret (ev_op (ev_op (ev_varI rfl) ev_cI (mo (by decide))) ev_cI rd_I0) fun v H3 e3 hv => ?_
      obtain rfl := dp_int hv
      refine q _ H3 (ex_tr e1 (ex_tr e2 e3)) (.inl ?_)
      have := fmod_pos (a := c.fdiv 6) (b := 7) (by decide)
      omega
    refine s_if (et_test K (ev_op (ev_op (ev_varI rfl) ev_cI (mo (by decide))) ev_cI (rd_eq rfl rfl))) (fun _ H3 e3 => ?_) fun _ H3 e3 => s_next (s_seq ?_)
    · refine s_ret (K := K) ev_cI fun v H4 e4 hv => ?_
      obtain rfl := dp_int hv
      exact q _ H4 (ex_tr e1 (ex_tr e2 (ex_tr e3 e4))) (.inl (by decide))
    refine s_if (et_and (et_B K (ev_varB rfl)) fun _ => et_test K (ev_op (ev_op (ev_varI rfl) ev_cI (mo (by decide))) ev_cI (rd_eq rfl rfl))) (fun hc H4 e4 => ?_) fun _ H4 e4 => s_next ?_
    · refine s_ret (ev_op (ev_op (ev_varI rfl) (ev_op (ev_op ev_cI (ev_op ev_cI ev_cI (rd_I ⟨by decide, by decide, by decide⟩)) (rd_mulI (mulB_of (a := 3) (b := 60) (by decide) (by decide) (by decide)))) ev_cI rd_addI) (mo (by decide))) (ev_op ev_cI ev_cI (rd_I ⟨by decide, by decide, by decide⟩)) rd_I0) fun v H5 e5 hv => ?_
      obtain rfl := dp_int hv
      refine q _ H5 (ex_tr e1 (ex_tr e2 (ex_tr e3 (ex_tr e4 e5)))) (.inr ⟨by simp at hc; exact hc.1, ?_⟩)
      have := fmod_pos (a := c.fdiv 6) (b := 2 * 10 ^ (15 : Int).toNat + 1) (by decide)
      have e : (10 : Int) ^ (15 : Int).toNat = 1000000000000000 := by decide
      rw [e] at this ⊢
      omega
    · refine s_ret (ev_op (ev_op (ev_varI rfl) ev_cI (mo (by decide))) ev_cI rd_I0) fun v H5 e5 hv => ?_
      obtain rfl := dp_int hv
      refine q _ H5 (ex_tr e1 (ex_tr e2 (ex_tr e3 (ex_tr e4 e5)))) (.inl ?_)
      have := fmod_pos (a := c.fdiv 6) (b := 41) (by decide)
      omega
abbrev s__law_steps : Stmt := topS 19
theorem sc__law_steps : FnScope ["script", "spot", "width", "most", "great", "steps", "k", "cell", "one", "other", "j", "left"] ["script", "spot", "width", "most", "great"] (defScope s__law_steps) := ⟨rfl, rfl, rfl, by decide +kernel, rfl, by decide +kernel, by decide +kernel⟩
theorem ok__law_steps {f : Addr} {fd : FuncData} (F : Fun K "_law_steps" "_law_steps" s__law_steps f fd) (T : Ctx P K mg base) (C__law_next : Cal P w K mg base 42 "_law_next" ["script", "spot"] (spNext K)) (C__law_number : Cal P w K mg base 41 "_law_number" ["cell", "great"] (spNum K)) : FnOk P w K mg base CX0 43 f fd ["script", "spot", "width", "most", "great"] (spStepsG K) := by
  have sc := sc__law_steps
  have B := T.bl
  refine F.ok sc (fun vs H Q E h => ?_) (fun cdv A outer s H vs Q E hr h => ?_)
  · obtain ⟨x, sp, ns, p, W, most, great, rfl, _⟩ := h
    rfl
  · obtain ⟨x, sp, ns, p, W, most, great, rfl, hx, hn, hs, hW, hm, q⟩ := h
    refine ⟨_, (pss_cons (ps_set (i := 5) sc.nd rfl (.inl rfl) (pe_lst pa_nil))
      (pss_cons (ps_for PassesOwn.never rfl (pi_range1 (by rfl) B.range (pa_cons (pe_op op_modN (pe_cal C__law_next hr (by decide) (by rfl) (pa_cons (pv 0) (pa_cons (pv 1) pa_nil))) (pe_op (addK K) (pv 3) pe_int)) pa_nil)) (pg_name (i := 6) sc.nd rfl (.inl rfl)) (pss_cons (ps_set (i := 7) sc.nd rfl (.inr rfl) (pe_cal C__law_next hr (by decide) (by rfl) (pa_cons (pv 0) (pa_cons (pv 1) pa_nil))))
      (pss_one (ps_if (PW.pt (pw_and (pt_cmpR op_gt (pv 6) pe_int (nomark _)) (pw_and (pt_cmpR (eqK K hr.units) (pe_op op_modN (pv 7) pe_int) pe_int (nomark _)) (pw_and1 (pt_not (pt_val (pv 4))))))) (pss_cons (ps_set (i := 8) sc.nd rfl (.inl rfl) (pe_ix (ixK K) (pv 5) (pe_op op_modN (pe_op op_fdivN (pv 7) pe_int) (pv 6)) (fun _ _ => rfl)))
      (pss_cons (ps_set (i := 9) sc.nd rfl (.inr rfl) (pe_ix (ixK K) (pv 5) (pe_op op_modN (pe_op op_fdivN (pv 7) pe_int) (pv 6)) (fun _ _ => rfl)))
      (pss_one (ps_expr (pe_bm PySem.F.plainAttrs_list PySem.F.slot_list_append PySem.F.type_list_append mt_append (pv 5) (pa_cons (pe_callTy (tupleK K) (by rfl) B.tuple (by decide +kernel) (pa_cons (pe_lc (own := [("j", 10), ("left", 11)]) rfl sc.nd (piEnum K (by rfl) B.enumerate (pa_cons (pv 8) pa_nil)) (blkOk_by (own := [("j", 10), ("left", 11)]) (N := ["script", "spot", "width", "most", "great", "steps", "k", "cell", "one", "other", "j", "left"]) (sc := defScope s__law_steps) (by decide +kernel)) (fun _ _ _ _ _ => (tupG K 2 rfl (pgs_cons (pg_name (i := 10) sc.nd rfl (.inl rfl)) (pgs_cons (pg_name (i := 11) sc.nd rfl (.inl rfl)) pgs_nil)))) (fun _ _ _ _ _ => pts_nil) (fun _ _ _ _ _ => (pe_op op_sub (pe_op opMul pe_int (pv 11)) (pe_ix (ixK K) (pv 9) (pv 10) (fun _ _ => rfl))))) pa_nil)) pa_nil)))))) (pss_one (ps_expr (pe_bm PySem.F.plainAttrs_list PySem.F.slot_list_append PySem.F.type_list_append mt_append (pv 5) (pa_cons (pe_callTy (tupleK K) (by rfl) B.tuple (by decide +kernel) (pa_cons (pe_lc (own := [("j", 10)]) rfl sc.nd (pi_range1 (by rfl) B.range (pa_cons (pv 2) pa_nil)) (blkOk_by (own := [("j", 10)]) (N := ["script", "spot", "width", "most", "great", "steps", "k", "cell", "one", "other", "j", "left"]) (sc := defScope s__law_steps) (by decide +kernel)) (fun _ _ _ _ _ => (pg_name (i := 10) sc.nd rfl (.inl rfl))) (fun _ _ _ _ _ => pts_nil) (fun _ _ _ _ _ => (pe_cal C__law_number hr (by decide) (by rfl) (pa_cons (pe_op (addK K) (pe_cal C__law_next hr (by decide) (by rfl) (pa_cons (pv 0) (pa_cons (pv 1) pa_nil))) (pe_op opMul pe_int (pv 7))) (pa_cons (pv 4) pa_nil))))) pa_nil)) pa_nil))))))))
      (pss_one (ps_ret (pv 5))))), ?_⟩
    have mo : ∀ {k : Int} {a : Int}, k ≠ 0 → RD K (rI (fun _ j => j ≠ 0) fun i j => .int (i.fmod j)) (.int a) (.int k) (.int (a.fmod k)) := fun h => rd_I h
    refine s_seq (s_asgF (K := K) (ds := []) (ef_lst ea_nil (by simp)) fun l xs0 H1 hl e1 h1 h2 => ?_)
    have nls : l ≠ sp := by rintro rfl; rw [hs] at hl; cases hl
    cases h2
    refine s_sq (s_forX (P := fun n H2 => (0 ≤ n ∧ n ≤ (most : Int)) ∧ Ex1 sp H H2 ∧ (∃ p' : Nat, H2 sp = some (.lst [.int (p' : Int)])) ∧ H2 l = some (.lst [])) (fun Q k => ?_) ?_)
    · refine er_next (hx.up e1) hn (e1 sp _ hs) rfl rfl _ ?_
      rintro v H2 ⟨rfl, e2, g2⟩
      refine (ev_op (K := K) (ta := tVar 3) (tb := tC (.int 1)) (r := rAddA K) (ev_varI rfl) ev_cI rd_addI) H2 ex_refl _ fun y H3 e3 hy => ?_
      obtain rfl := dp_int hy
      refine ⟨_, _, rfl, rfl, by omega, ?_⟩
      have hf := fmod_pos (a := vf ns p) (b := (most : Int) + 1) (by omega)
      refine k _ H3 ⟨⟨hf.1, by omega⟩, ex1_tr (ex1_of e1) (ex1_tr e2 (ex1_of e3)), ⟨_, e3 sp _ g2⟩, e3 l _ (e2 l _ h1 nls)⟩
    · rintro n H2 ⟨⟨n0, n1⟩, e2, g2, h2⟩
      refine ⟨by omega, fun i σ' H' => ∃ (kk cc oo ot : Option V) (xs : List V) (S : List Pt) (p' : Nat), σ' = [some x, some (.ref sp), some (.int (W : Int)), some (.int (most : Int)), some (.bl great), some (.ref l), kk, cc, oo, ot, none, none] ∧ Ex1 sp H H' ∧ H' sp = some (.lst [.int (p' : Int)]) ∧ H' l = some (.lst xs) ∧ DdAll K H' xs (S.map ptD) ∧ S.length = i ∧ (∀ k, k < S.length → (S.getD k []).length = W) ∧ (∀ k, k < S.length → Bd (if great then 50 else 5 + 2 * k) (S.getD k [])) ∧ (great = true → ∀ k, k < S.length → ∀ z ∈ S.getD k [], z.natAbs ≤ 1000000000000000), ?_, ?_, ?_⟩
      · obtain ⟨p', g2⟩ := g2
        exact ⟨none, none, none, none, [], [], p', rfl, e2, g2, h2, .nil, rfl, fun k hk => absurd hk (Nat.not_lt_zero _), fun k hk => absurd hk (Nat.not_lt_zero _), fun _ k hk => absurd hk (Nat.not_lt_zero _)⟩
      · rintro i σ' H' hi ⟨kk, cc, oo, ot, xs, S, p', rfl, e', g', h', hd', hSl, hSw, hSb, hSg⟩
        have hx' := hx.up1 e' hs
        refine s_seq (s_asgR (er_next hx' hn g' rfl rfl) ?_)
        rintro v H3 ⟨rfl, e3, g3⟩
        have h3 := e3 l _ h' nls
        have hd3 : DdAll K H3 xs (S.map ptD) := hd'.tx (tex1 e3 g') (tupOAll_map tupO_pt S)
        have hx3 := hx'.up1 e3 g'
        have e03 : Ex1 sp H H3 := ex1_tr e' e3
        generalize vf ns p' = cell at *
        have grown : ∀ {pt : Pt} {H4 : Hp} {ys : List V}, pt.length = W → Bd (if great then 50 else 5 + 2 * i) pt → (great = true → ∀ z ∈ pt, z.natAbs ≤ 1000000000000000) → DdAll K H4 ys (S.map ptD ++ [ptD pt]) →
            DdAll K H4 ys ((S ++ [pt]).map ptD) ∧ (S ++ [pt]).length = i + 1 ∧ (∀ k, k < (S ++ [pt]).length → ((S ++ [pt]).getD k []).length = W) ∧ (∀ k, k < (S ++ [pt]).length → Bd (if great then 50 else 5 + 2 * k) ((S ++ [pt]).getD k [])) ∧ (great = true → ∀ k, k < (S ++ [pt]).length → ∀ z ∈ (S ++ [pt]).getD k [], z.natAbs ≤ 1000000000000000) := fun {pt H4 ys} hl hb hgr hd => by
          have ap : ∀ k, (S ++ [pt]).getD k [] = if k < S.length then S.getD k [] else if k = S.length then pt else [] := fun k => by
            simp only [List.getD_eq_getElem?_getD]
            by_cases z : k < S.length
            · rw [if_pos z, List.getElem?_append_left z]
            · rw [if_neg z, List.getElem?_append_right (by omega)]
              by_cases z2 : k = S.length
              · rw [if_pos z2, z2]; simp
              · rw [if_neg z2, List.getElem?_eq_none (by simp; omega)]; rfl
          refine ⟨by rw [List.map_append]; exact hd, by simp [hSl], fun k hk => ?_, fun k hk => ?_, fun hgt k hk => ?_⟩
          · rw [ap]
            simp at hk
            by_cases z : k < S.length
            · rw [if_pos z]; exact hSw k z
            · rw [if_neg z, if_pos (by omega)]; exact hl
          · rw [ap]
            simp at hk
            by_cases z : k < S.length
            · rw [if_pos z]; exact hSb k z
            · have hk2 : k = S.length := by omega
              rw [if_neg z, if_pos hk2, hk2, hSl]; exact hb
          · rw [ap]
            simp at hk
            by_cases z : k < S.length
            · rw [if_pos z]; exact hSg hgt k z
            · rw [if_neg z, if_pos (by omega)]; exact hgr hgt
        have hlist : ∀ {H4 : Hp}, Ex H3 H4 → Dd K H4 (.ref l) (.list (S.map ptD)) := fun e => .lst (SqL.of (e l _ h3)) (hd3.up e)
        refine s_if (et_and (et_test K (ev_op (ev_varI rfl) ev_cI rd_B0)) fun _ => et_and (et_test K (ev_op (ev_op (ev_varI rfl) ev_cI (mo (by decide))) ev_cI (rd_eq rfl rfl))) fun _ => et_not (et_B K (ev_varB rfl))) (fun hc H4 e4 => ?_) (fun hc H4 e4 => ?_)
        · simp at hc
          have hi0 : 0 < i := by omega
          have hg : great = false := hc.2.2
          subst hg
          have ix : ∀ z : Int, ∃ m : Nat, z.fmod (i : Int) = (m : Int) ∧ m < S.length := fun z => by
            have := fmod_pos (a := z) (b := (i : Int)) (by omega)
            exact ⟨(z.fmod (i : Int)).toNat, by omega, by omega⟩
          obtain ⟨ia, ea, la⟩ := ix (cell.fdiv 4)
          obtain ⟨ib, eb, lb⟩ := ix (cell.fdiv 24)
          have gp : ∀ {m : Nat}, m < S.length → (S.map ptD)[m]? = some (ptD (S.getD m [])) := fun {m} hm => by
            rw [List.getD_eq_getElem?_getD, List.getElem?_map, List.getElem?_eq_getElem hm]; rfl
          refine s_seq (s_asgD (ev_op (ev_var rfl (hlist e4)) (ev_op (ev_op (ev_varI rfl) ev_cI (rd_I ⟨by decide, by decide⟩)) (ev_varI rfl) (mo (by omega))) (rd_ixL ea (gp la))) fun va H5 e5 hva => ?_)
          refine s_sq (s_asgD (ev_op (ev_var rfl (hlist (ex_tr e4 e5))) (ev_op (ev_op (ev_varI rfl) ev_cI (rd_I ⟨by decide, by decide⟩)) (ev_varI rfl) (mo (by omega))) (rd_ixL eb (gp lb))) fun vb H6 e6 hvb => ?_)
          have e36 := ex_tr e4 (ex_tr e5 e6)
          have lwa := hSw ia la
          have lwb := hSw ib lb
          have hpb : ∀ j, (3 * vf (S.getD ia []) j - vf (S.getD ib []) j).natAbs < 2 ^ (5 + 2 * i) := fun j => by
            have b1 := vf_bd (hSb ia la) j
            have b2 := vf_bd (hSb ib lb) j
            simp only [Bool.false_eq_true, if_false] at b1 b2
            have p1 : 2 ^ (5 + 2 * ia) ≤ 2 ^ (5 + 2 * (i - 1)) := Nat.pow_le_pow_right (by omega) (by omega)
            have p2 : 2 ^ (5 + 2 * ib) ≤ 2 ^ (5 + 2 * (i - 1)) := Nat.pow_le_pow_right (by omega) (by omega)
            have p3 : 2 ^ (5 + 2 * i) = 4 * 2 ^ (5 + 2 * (i - 1)) := by
              rw [show 5 + 2 * i = 5 + 2 * (i - 1) + 2 by omega, Nat.pow_add]; omega
            omega
          have hE : EvD K (tCB (rTupleOf K) (tCons (tLc (iEnumM K (tCons (tVar 8) tNil)) (gTwo K 10 11) tYes (tOp (rI0 fun i j => .int (i - j)) (tOp rMulA (tC (.int 3)) (tVar 11)) (tOp (rIx K) (tVar 9) (tVar 10))) [10, 11]) tNil))
              [some x, some (.ref sp), some (.int (W : Int)), some (.int (most : Int)), some (.bl false), some (.ref l), some (.int (i : Int)), some (.int cell), some va, some vb, none, none] H6 (ptD ((List.range W).map fun j => 3 * vf (S.getD ia []) j - vf (S.getD ib []) j)) :=
            ev_cb (ea_cons (EvF.dd (EvF.to (ef_lc1 (fun j => .int (3 * vf (S.getD ia []) j - vf (S.getD ib []) j)) (ei_enum (k := false) (ds := (S.getD ia []).map .int) (ea_cons (ev_var (i := 8) rfl (hva.up e6)) ea_nil)) (by rw [List.length_map]; omega) (hwBE (j1 := 10) (j2 := 11) (vs := [10, 11]) fun _ _ => rfl) (by
              rintro j H7 σ7 e7 hj ⟨u, d, hd, hu, rfl⟩
              obtain ⟨n, en, rfl⟩ := pt_at hd hu
              rw [List.length_map] at hj
              refine ⟨?_, rfl⟩
              rw [← vf_get en]
              exact ev_op (ev_op ev_cI (ev_varI (i := 11) rfl) (rd_mulI (mulB_l ⟨by decide, by decide⟩))) (ev_ptAt (ev_var (i := 9) rfl (hvb.up e7)) (ev_varI (i := 10) rfl) rfl (by omega)) rd_I0)) (by
              refine range_map_eq (by rw [List.length_map, lwa]; simp) fun j hj => ?_
              simp)) ) ea_nil) rc_tupleL
          refine s_app1 (e36 l _ h3) (hd3.up e36) (tupOAll_map tupO_pt S) rfl hE (tupO_pt _) (by rw [List.length_map]; omega) fun H7 ys e7 h7 hd7 => ?_
          obtain ⟨t1, t2, t3, t4, t5⟩ := grown (pt := (List.range W).map fun j => 3 * vf (S.getD ia []) j - vf (S.getD ib []) j) (by simp) (fun z hz => by
            obtain ⟨j, _, rfl⟩ := List.mem_map.mp hz
            simp only [Bool.false_eq_true, if_false]
            exact hpb j) (fun z => by cases z) hd7
          exact ⟨_, _, _, _, ys, _, _, rfl, ex1_mut (ex1_tr e03 (ex1_of e36)) hl e7, e7 sp _ (e36 sp _ g3) nls.symm, h7, t1, t2, t3, t4, t5⟩
        · -- steps.append(tuple([_law_number(..) for j in range(width)]))
          have hx4 := hx3.up e4
          have g4 := e4 sp _ g3
          have h4 := e4 l _ h3
          have hd4 := hd3.up e4
          have hlc := er_lcR (K := K) (σ := [some x, some (.ref sp), some (.int (W : Int)), some (.int (most : Int)), some (.bl great), some (.ref l), some (.int (i : Int)), some (.int cell), oo, ot, none, none]) (H := H4)
            (te := tCall (spNum K) [] E0 (tCons (tOp (rAddA K) (tCall (spNext K) [] E0 (tCons (tVar 0) (tCons (tVar 1) tNil))) (tOp rMulA (tC (.int 5)) (tVar 7))) (tCons (tVar 4) tNil))) (j := 10) (n := (W : Int)) (t := tCons (tVar 2) tNil)
            (ea_cons (ev_varI rfl) ea_nil) (by omega) (by omega) (fun _ => rfl)
            (fun Da j H' => H4 Da = none ∧ Ex1 sp H4 H' ∧ (∃ p' : Nat, H' sp = some (.lst [.int (p' : Int)])) ∧ ∃ zs : List Int, H' Da = some (.lst (zs.map V.int)) ∧ zs.length = j ∧ ∀ z ∈ zs, NumOk great z)
            (fun H5 Da e5 hDa => ⟨ex_back e5 hDa, ex1_of (ex_tr e5 (ex_new hDa)), ⟨_, (ex_new hDa) sp _ (e5 sp _ g4)⟩, [], upd_same, rfl, fun z hz => by cases hz⟩)
            (fun Da j H5 hj hP => by
              obtain ⟨q1, q2, ⟨p5, q3⟩, zs, q4, q5, q6⟩ := hP
              have nDs : Da ≠ sp := by rintro rfl; rw [g4] at q1; cases q1
              refine er_next (hx4.up1 q2 g4) hn q3 rfl rfl _ ?_
              rintro v H6 ⟨rfl, e6, g6⟩
              refine (ev_op (K := K) (ta := tC (.int 5)) (tb := tVar 7) (r := rMulA) ev_cI (ev_varI rfl) (rd_mulI (mulB_l ⟨by decide, by decide⟩))) H6 ex_refl _ fun y H7 e7 hy => ?_
              obtain rfl := dp_int hy
              refine .inl ⟨_, _, rfl, rfl, ?_⟩
              refine ⟨_, rfl, ?_⟩
              refine ⟨_, great, rfl, fun n H8 e8 hn8 => ?_⟩
              have e68 := ex_tr e7 e8
              refine ⟨zs.map V.int, e68 Da _ (e6 Da _ q4 nDs), Evl.sz_lt (by rw [List.length_map]; omega), q1, ?_, ⟨p5 + 1, ?_⟩, zs ++ [n], ?_, by simp [q5], ?_⟩
              · exact ex1_mut (ex1_tr q2 (ex1_tr e6 (ex1_of e68))) q1 ex1_upd
              · rw [upd_ne nDs.symm]
                exact e68 sp _ g6
              · rw [upd_same]; simp
              · intro z hz
                rcases List.mem_append.mp hz with hz | hz
                · exact q6 z hz
                · obtain rfl := List.mem_singleton.mp hz
                  exact hn8)
          refine ⟨_, rfl, Or.inl ⟨rfl, xs, SqL.of h4⟩, ?_⟩
          refine t_cons1 (t_cb (t_cons1 (hlc _ ?_)))
          rintro v H5 ⟨Da, rfl, q1, q2, ⟨p5, q3⟩, zs, q4, q5, q6⟩
          refine ⟨Da, zs.map V.int, rfl, .inl ⟨SqL.of q4, fun T o hT ho => ?_⟩⟩
          have h5 := q2 l _ h4 nls
          have hd5 : DdAll K H5 xs (S.map ptD) := hd4.tx (tex1 q2 g4) (tupOAll_map tupO_pt S)
          have eT := ex_new (o := .frz o (.tup (zs.map V.int))) hT
          refine ⟨l, xs, .ref T, rfl, rfl, eT l _ h5, Evl.sz_lt (by rw [hd5.len, List.length_map]; omega), ?_⟩
          have hpt : Dd K (upd H5 T (.frz o (.tup (zs.map V.int)))) (.ref T) (ptD zs) := .tup ⟨o, upd_same, ho⟩ (DdAll.ints zs)
          have hdA := ((hd5.up eT).app (.cons hpt .nil)).tx (tex_upd (ys := xs ++ [.ref T]) (eT l _ h5)) (tupOAll_app (tupOAll_map tupO_pt S) (by simp [tupOAll, tupO_pt]))
          have hzl : zs.length = W := by rw [q5]; omega
          obtain ⟨t1, t2, t3, t4, t5⟩ := grown (pt := zs) hzl (fun z hz => by
            rcases q6 z hz with h | ⟨h, h'⟩
            · have : 2 ^ 5 ≤ 2 ^ (if great then 50 else 5 + 2 * i) := Nat.pow_le_pow_right (by omega) (by split <;> omega)
              omega
            · subst h
              simp only [if_true]
              have : (1000000000000000 : Nat) < 2 ^ 50 := by decide
              omega) (fun _ z hz => by
            rcases q6 z hz with h | ⟨_, h'⟩
            · omega
            · exact h') hdA
          refine ⟨_, _, _, _, _, _, p5, rfl, ex1_mut (ex1_tr (ex1_tr e03 (ex1_of e4)) (ex1_tr q2 (ex1_of eT))) hl ex1_upd, ?_, upd_same, t1, t2, t3, t4, t5⟩
          rw [upd_ne nls.symm]
          exact eT sp _ q3
      · rintro σ' H' ⟨kk, cc, oo, ot, xs, S, p', rfl, e', g', h', hd', hSl, hSw, hSb, hSg⟩
        exact s_retV (ev_v rfl) fun H3 e3 => q l xs S H3 p' hl (ex1_tr e' (ex1_of e3)) (e3 sp _ g') (e3 l _ h') (hd'.up e3) ⟨⟨by omega, hSw, hSb⟩, hSg⟩
abbrev s__law_text : Stmt := topS 20
theorem sc__law_text : FnScope ["width", "steps", "rows", "step", "number"] ["width", "steps"] (defScope s__law_text) := ⟨rfl, rfl, rfl, by decide +kernel, rfl, by decide +kernel, by decide +kernel⟩
theorem ok__law_text {f : Addr} {fd : FuncData} (F : Fun K "_law_text" "_law_text" s__law_text f fd) (T : Ctx P K mg base) : FnOk P w K mg base CX0 41 f fd ["width", "steps"] (spD K RText) := by
  have sc := sc__law_text
  have B := T.bl
  refine F.ok sc (fun vs H Q E h => ?_) (fun cdv A outer s H vs Q E hr h => ?_)
  · obtain ⟨ds, d, hv, ⟨W, S, rfl, _⟩, _⟩ := h
    exact hv.len
  · obtain ⟨ds, d, hv, ⟨W, S, rfl, ok, rfl⟩, q⟩ := h
    obtain ⟨x, y, rfl, hx, hy⟩ := dd2 hv
    obtain rfl := dp_int hx
    refine ⟨_, (pss_cons (ps_set (i := 2) sc.nd rfl (.inl rfl) (pe_lst (pa_cons (pe_op (addK K) pe_str (pe_callTy call_str_int (by rfl) B.str (by decide +kernel) (pa_cons (pv 0) pa_nil))) pa_nil)))
      (pss_cons (ps_for PassesOwn.never rfl (piLT K (pv 1)) (pg_name (i := 3) sc.nd rfl (.inl rfl)) (pss_one (ps_expr (pe_bm PySem.F.plainAttrs_list PySem.F.slot_list_append PySem.F.type_list_append mt_append (pv 2) (pa_cons (pe_join pe_str (pe_lc (own := [("number", 4)]) rfl sc.nd (piLT K (pv 3)) (blkOk_by (own := [("number", 4)]) (N := ["width", "steps", "rows", "step", "number"]) (sc := defScope s__law_text) (by decide +kernel)) (fun _ _ _ _ _ => (pg_name (i := 4) sc.nd rfl (.inl rfl))) (fun _ _ _ _ _ => pts_nil) (fun _ _ _ _ _ => (pe_callTy call_str_int (by rfl) B.str (by decide +kernel) (pa_cons (pv 4) pa_nil))))) pa_nil)))))
      (pss_one (ps_ret (pe_join pe_str (pv 2)))))), ?_⟩
    have d10 : TL.tl (Str.ofString "\n") = [10] := by decide +kernel
    have d32 : TL.tl (Str.ofString " ") = [32] := by decide +kernel
    have dwid : TL.tl (Str.ofString "width ") = widL ++ [32] := by decide +kernel
    refine s_seq (s_asgF (K := K) (ds := [.str (txt (headL W))]) (ef_lst (ea_cons (ev_headS (K := K) (ta := tVar 0) dwid ok.w4 (ev_varI rfl)) ea_nil) (by simp)) fun l xs0 H1 hl e1 g1 g1' => ?_)
    have o1 : Own K H H1 l ((rowsL W (S.take 0)).map fun r => PyData.str (txt r)) := .mk' hl e1 g1 g1' rfl
    refine s_sq (s_forV (eiv_list (i := 1) (σ := [some (.int (W : Int)), some y, some (.ref l), none, none]) (j := 3) rfl hy) e1 (fun i σ' H' => ∃ st, σ' = [some (.int (W : Int)), some y, some (.ref l), st, none] ∧ Own K H H' l ((rowsL W (S.take i)).map fun r => PyData.str (txt r))) (fun H2 e2 => ⟨none, rfl, o1.up e2⟩) (fun i σ' H' _ h => by obtain ⟨_, _, h⟩ := h; exact h.ex) ?_ ?_)
    · rintro i σ' σ'' H' H'' hi ⟨st, rfl, o⟩ e2 ⟨u, d, hd, hu, rfl⟩
      obtain ⟨p, hp, rfl⟩ := map_got hd
      have hm : p ∈ S := List.mem_of_getElem? hp
      have w4 := ok.w4
      have n6 := ok.n6
      rw [List.length_map] at hi
      refine s_appO (o.up e2) rfl (ev_rowS (ta := tVar 0) (p := p) d32 (by rw [ok.len p hm]; omega) (ok.bd p hm) (ei_tup (EvD.to (ev_var (i := 3) rfl hu) rfl) |> fun h => by rw [List.length_map] at h; exact h) (fun _ => rfl) fun _ => rfl) rfl (by simp [rowsL]; omega) fun H3 e3 o3 => ⟨_, rfl, ?_⟩
      have tk : S.take (i + 1) = S.take i ++ [p] := by
        rw [List.take_add_one, hp]
        rfl
      rw [tk]
      have : (rowsL W (S.take i ++ [p])).map (fun r => PyData.str (txt r)) = (rowsL W (S.take i)).map (fun r => PyData.str (txt r)) ++ [.str (txt (rowL p))] := by
        unfold rowsL
        simp
      rw [this]
      exact o3
    · rintro σ' H' ⟨st, rfl, o⟩
      rw [List.length_map, List.take_length] at o
      exact s_ret (K := K) (ev_textS d10 ok (o.var rfl)) fun v H3 e3 hv => q v H3 (ex_tr o.ex e3) hv
abbrev s__law_which : Stmt := topS 21
theorem sc__law_which : FnScope ["e", "low"] ["e"] (defScope s__law_which) := ⟨rfl, rfl, rfl, by decide +kernel, rfl, by decide +kernel, by decide +kernel⟩
theorem okp__law_which {f C1 C2 C3 C4 C5 : Addr} {fd : FuncData} (F : Fun K "_law_which" "_law_which" s__law_which f fd) (T : Ctx P K mg base) (E_BadStep : ErrC K mg "BadStep" C1) (E_BadWidth : ErrC K mg "BadWidth" C2) (E_NoField : ErrC K mg "NoField" C3) (E_TooMany : ErrC K mg "TooMany" C4) (E_Unlike : ErrC K mg "Unlike" C5) (N_ValueError : mg "ValueError" = none) :
    FnP P w K mg base 41 f fd ["e"] (spWhich K C1 C2 C3 C4 C5) := by
  have sc := sc__law_which
  have B := T.bl
  refine Fun.okP F sc (fun a cls d vs H Q E h => ?_) (fun cdv A out s H vs Q p cls d hz hf h => ?_)
  · obtain ⟨D, b1, b2, b3, b4, b5, b6, rfl, _⟩ := h
    rfl
  · obtain ⟨D, b1, b2, b3, b4, b5, b6, rfl, rfl, rfl, EC, k1, k2, k3, k4, k5, k6, q⟩ := h
    have isr : ∀ {X : Cx}, p ∈ X.pn → X.K = K → CallR X (.builtin "isinstance") (rIsP K p.1 (.ref D) none) := fun h e => by
      subst e
      exact call_isP h hz hf
    refine ⟨_, (pss_cons (ps_set (i := 1) sc.nd rfl (.inl rfl) (pe_lst (pa_cons (pe_callB (isr (List.mem_singleton.mpr rfl) rfl) (by rfl) B.isinstance (by decide +kernel) (pa_cons (pv 0) (pa_cons (pe_glob (v := .ref _) (by rfl) E_BadStep.gX rfl) pa_nil))) (pa_cons (pe_callB (isr (List.mem_singleton.mpr rfl) rfl) (by rfl) B.isinstance (by decide +kernel) (pa_cons (pv 0) (pa_cons (pe_glob (v := .ref _) (by rfl) E_BadWidth.gX rfl) pa_nil))) (pa_cons (pe_callB (isr (List.mem_singleton.mpr rfl) rfl) (by rfl) B.isinstance (by decide +kernel) (pa_cons (pv 0) (pa_cons (pe_glob (v := .ref _) (by rfl) E_NoField.gX rfl) pa_nil))) (pa_cons (pe_callB (isr (List.mem_singleton.mpr rfl) rfl) (by rfl) B.isinstance (by decide +kernel) (pa_cons (pv 0) (pa_cons (pe_glob (v := .ref _) (by rfl) E_TooMany.gX rfl) pa_nil))) pa_nil))))))
      (pss_one (ps_ret (pe_op (addK K) (pv 1) (pe_lst (pa_cons (pe_callB (isr (List.mem_singleton.mpr rfl) rfl) (by rfl) B.isinstance (by decide +kernel) (pa_cons (pv 0) (pa_cons (pe_glob (v := .ref _) (by rfl) E_Unlike.gX rfl) pa_nil))) (pa_cons (pe_callB (isr (List.mem_singleton.mpr rfl) rfl) (by rfl) B.isinstance (by decide +kernel) (pa_cons (pv 0) (pa_cons (pe_bltn (v := .ty "ValueError") (by rfl) N_ValueError (by decide +kernel) rfl) pa_nil))) pa_nil))))))), ?_⟩
    have ask : ∀ {σ : L2.St} {H' : Hp} {C : Addr} {b : Bool}, σ[0]? = some (some (.ref p.1)) → PySem.W.kitOne K (.ref D) (.ref C) = some b → EvD K (tCB (rIsP K p.1 (.ref D) none) (tCons (tVar 0) (tCons (tC (.ref C)) tNil))) σ H' (.bool b) := fun z hk H1 e Q q =>
      ⟨_, z, D, _, _, _, rfl, rfl, EC, rfl, fun u hu => hu, hk, q _ H1 ex_refl (.bl _)⟩
    have askV : ∀ {σ : L2.St} {H' : Hp}, σ[0]? = some (some (.ref p.1)) → EvD K (tCB (rIsP K p.1 (.ref D) none) (tCons (tVar 0) (tCons (tC (.ty "ValueError")) tNil))) σ H' (.bool b6) := fun z H1 e Q q =>
      ⟨_, z, D, _, _, _, rfl, rfl, EC, rfl, fun u hu => hu, k6, q _ H1 ex_refl (.bl _)⟩
    refine s_seq (s_asgF (K := K) (ef_lst (ea_cons (ask rfl k1) (ea_cons (ask rfl k2) (ea_cons (ask rfl k3) (ea_cons (ask rfl k4) ea_nil)))) (by simp)) fun l xs H1 hl e1 g1 g1' => ?_)
    refine s_nx (s_retF (K := K) (ef_addL (el_var rfl g1 g1') (EvF.l (ef_lst (ea_cons (ask rfl k5) (ea_cons (askV rfl) ea_nil)) (by simp))) (by simp)) fun l2 ys H2 hl2 e2 g2 g2' => ?_)
    exact q l2 ys H2 (ex_back e1 hl2) (ex_tr e1 e2) g2 g2'
abbrev s__law_due : Stmt := topS 22
theorem sc__law_due : FnScope ["place", "k"] ["place"] (defScope s__law_due) := ⟨rfl, rfl, rfl, by decide +kernel, rfl, by decide +kernel, by decide +kernel⟩
theorem ok__law_due {f : Addr} {fd : FuncData} (F : Fun K "_law_due" "_law_due" s__law_due f fd) (T : Ctx P K mg base) : FnOk P w K mg base CX0 41 f fd ["place"] (spF K RDue) := by
  have sc := sc__law_due
  have B := T.bl
  refine F.ok sc (fun vs H Q E h => ?_) (fun cdv A outer s H vs Q E hr h => ?_)
  · obtain ⟨ds, es, hv, ⟨p, rfl, _⟩, _⟩ := h
    exact hv.len
  · obtain ⟨ds, es, hv, ⟨p, rfl, rfl⟩, q⟩ := h
    obtain ⟨x, rfl, hx⟩ := dd1 hv
    obtain rfl := dp_int hx
    refine ⟨_, (pss_one (ps_ret (pe_op (addK K) (pe_lc (own := [("k", 1)]) rfl sc.nd (pi_range1 (by rfl) B.range (pa_cons pe_int pa_nil)) (blkOk_by (own := [("k", 1)]) (N := ["place", "k"]) (sc := defScope s__law_due) (by decide +kernel)) (fun _ _ _ _ _ => (pg_name (i := 1) sc.nd rfl (.inl rfl))) (fun _ _ _ _ _ => pts_nil) (fun _ _ _ _ _ => (pe_cmpR (eqK K hr.units) (pv 1) (pv 0) (nomark _)))) (pe_lst (pa_cons pe_bl pa_nil))))), ?_⟩
    refine s_retF (K := K) (EvF.to (ef_addL (EvF.l (ef_lc1 (fun k => .bool (decide ((0 + ((k : Nat) : Int)) = p))) (ei_range1 K (ea_cons ev_cI ea_nil) (by omega) (by omega)) (by decide) (hwBR fun _ => rfl) ?_)) (EvF.l (ef_lst (ea_cons ev_cB ea_nil) (by simp))) (by simp)) ?_) q
    · intro k H5 σ5 e5 hk hb
      obtain rfl := hb
      exact ⟨EvD.to (ev_op (ev_varI rfl) (ev_varI rfl) (rd_eq rfl rfl)) (by rw [eqv_intD]), rfl⟩
    · rfl
abbrev s__law_bad_word : Stmt := topS 23
theorem sc__law_bad_word : FnScope ["way", "word", "some"] ["way", "word"] (defScope s__law_bad_word) := ⟨rfl, rfl, rfl, by decide +kernel, rfl, by decide +kernel, by decide +kernel⟩
theorem ok__law_bad_word {f : Addr} {fd : FuncData} (F : Fun K "_law_bad_word" "_law_bad_word" s__law_bad_word f fd) (T : Ctx P K mg base) : FnOk P w K mg base CX0 41 f fd ["way", "word"] (spBadW K) := by
  have sc := sc__law_bad_word
  have B := T.bl
  refine F.ok sc (fun vs H Q E h => ?_) (fun cdv A outer s H vs Q E hr h => ?_)
  · obtain ⟨way, i, rfl, _⟩ := h
    rfl
  · obtain ⟨way, i, rfl, hi, q⟩ := h
    refine ⟨_, (pss_cons (ps_set (i := 2) sc.nd rfl (.inl rfl) (pe_lst (pa_cons (pe_strThen (addK K) (CwR.pet_replC (pv 1) (by decide +kernel))) (pa_cons pe_str (pa_cons pe_str (pa_cons pe_str (pa_cons pe_str (pa_cons pe_str (pa_cons pe_str (pa_cons pe_str (pa_cons pe_str pa_nil)))))))))))
      (pss_cons (ps_set (i := 2) sc.nd rfl (.inl rfl) (pe_op (addK K) (pv 2) (pe_lst (pa_cons pe_str pa_nil))))
      (pss_cons (ps_set (i := 2) sc.nd rfl (.inl rfl) (pe_op (addK K) (pv 2) (pe_lst (pa_cons pe_str (pa_cons pe_str (pa_cons pe_str (pa_cons pe_str (pa_cons pe_str (pa_cons (pe_op (addK K) (pv 1) pe_str) (pa_cons pe_str (pa_cons (pe_op (addK K) (pv 1) pe_str) (pa_cons pe_str (pa_cons pe_str pa_nil)))))))))))))
      (pss_cons (ps_set (i := 2) sc.nd rfl (.inl rfl) (pe_op (addK K) (pv 2) (pe_lst (pa_cons pe_str (pa_cons pe_str pa_nil)))))
      (pss_one (ps_ret (pe_ix (ixK K) (pv 2) (pe_op op_modN (pv 0) pe_int) (fun _ _ => rfl)))))))), ?_⟩
    have li : (txt (numI i)).length ≤ 17 := by rw [txt_len]; exact numI_len hi
    have d45 : TL.tl (Str.ofString "-") = [45] := by decide +kernel
    have d0 : TL.tl (Str.ofString "") = [] := by decide +kernel
    have d48 : TL.tl (Str.ofString "0") = [48] := by decide +kernel
    have d32 : TL.tl (Str.ofString " ") = [32] := by decide +kernel
    have nl : (TL.numL i.natAbs).length ≤ 16 := TL.numL_len (k := 16) (by decide) (Nat.lt_of_le_of_lt hi (by decide))
    have r1 : TL.tl (Str.ofString "0" ++ Txt.replace (txt (numI i)) (Str.ofString "-") (Str.ofString "")) = 48 :: TL.numL i.natAbs := by
      rw [TL.tl_append, d48]
      have e := PySem.StrLaws.replace_list (x := txt (numI i)) (y := Str.ofString "-") (z := Str.ofString "") (by decide +kernel)
      have e : TL.tl (Txt.replace (txt (numI i)) (Str.ofString "-") (Str.ofString "")) = PySem.StrLaws.replL (TL.tl (Str.ofString "-")) (TL.tl (Str.ofString "")) (numI i) := e
      rw [e, d45, d0, repl_num]
      rfl
    have b1 : badW (48 :: TL.numL i.natAbs) = true := by
      have hne := TL.numL_ne i.natAbs
      have h1 : 1 ≤ (TL.numL i.natAbs).length := by
        cases e : TL.numL i.natAbs with
        | nil => exact absurd e hne
        | cons a r => simp
      refine bad_of (by simp; omega) (by
        intro hm
        rcases List.mem_cons.mp hm with hm | hm
        · cases hm
        · exact TL.numL_free (by omega) hm) (.inr ?_)
      unfold numOf
      rw [if_pos]
      exact .inr (.inl ⟨by simp [figsOf]; omega, rfl⟩)
    have r2 : TL.tl (txt (numI i) ++ Str.ofString "-") = numI i ++ [45] := by rw [TL.tl_append, d45]
    have r3 : TL.tl (txt (numI i) ++ Str.ofString " ") = numI i ++ [32] := by rw [TL.tl_append, d32]
    have b3 : badW (numI i ++ [32]) = true := bad_of (by rw [txt_len] at li; simp; omega) (by
      intro hm
      rcases List.mem_append.mp hm with hm | hm
      · exact numI_free (by omega) hm
      · simp at hm) (.inl (by simp))
    have b2 : badW (numI i ++ [45]) = true := by
      refine bad_of (by rw [txt_len] at li; simp; omega) (by
        intro hm
        rcases List.mem_append.mp hm with hm | hm
        · exact numI_free (by omega) hm
        · simp at hm) (.inr ?_)
      have fe : figsOf (numI i ++ [45]) = TL.numL i.natAbs ++ [45] := by
        unfold numI
        split
        · rfl
        · rcases figs_cases (TL.numL i.natAbs ++ [45]) with ⟨h1, _⟩ | ⟨_, h2⟩
          · exfalso
            have hne := TL.numL_ne i.natAbs
            cases e : TL.numL i.natAbs with
            | nil => exact hne e
            | cons a r =>
              rw [e] at h1
              have : 45 ∈ TL.numL i.natAbs := by
                rw [e]
                simp at h1
                rw [h1]
                simp
              exact TL.numL_free (by omega) this
          · exact h2
      rw [numOf_other, if_pos]
      refine .inr fun h => ?_
      rw [fe, List.all_append] at h
      simp [digit] at h
    have cat : ∀ {σ : L2.St} {H' : Hp} {c : Str}, c.length ≤ 5 → σ[1]? = some (some (.str (txt (numI i)))) → EvD K (tOp (rAddA K) (tVar 1) (tC (.str c))) σ H' (.str (txt (numI i) ++ c)) := fun hc h0 =>
      ev_op (ev_varS h0) ev_cS (rd_addS (by omega))
    refine s_seq (s_asgF (K := K) (ef_lst (ea_cons (ev_op ev_cS (ev_repl (ev_varS rfl) (by omega) (by decide +kernel)) (rd_addS ?_)) (ea_cons ev_cS (ea_cons ev_cS (ea_cons ev_cS (ea_cons ev_cS (ea_cons ev_cS (ea_cons ev_cS (ea_cons ev_cS (ea_cons ev_cS ea_nil))))))))) (by simp)) fun l1 xs1 H1 hl1 e1 g1 g1' => ?_)
    · have := congrArg List.length r1
      rw [TL.tl_append, List.length_append, ← TL.len_tl, ← TL.len_tl, List.length_cons] at this
      omega
    refine s_sq (s_asgF (K := K) (ef_addL (el_var rfl g1 g1') (EvF.l (ef_lst (ea_cons ev_cS ea_nil) (by simp))) (by simp)) fun l2 xs2 H2 hl2 e2 g2 g2' => ?_)
    refine s_sq (s_asgF (K := K) (ef_addL (el_var rfl g2 g2') (EvF.l (ef_lst (ea_cons ev_cS (ea_cons ev_cS (ea_cons ev_cS (ea_cons ev_cS (ea_cons ev_cS (ea_cons (cat (by decide +kernel) rfl) (ea_cons ev_cS (ea_cons (cat (by decide +kernel) rfl) (ea_cons ev_cS (ea_cons ev_cS ea_nil)))))))))) (by simp))) (by simp)) fun l3 xs3 H3 hl3 e3 g3 g3' => ?_)
    refine s_sq (s_asgF (K := K) (ef_addL (el_var rfl g3 g3') (EvF.l (ef_lst (ea_cons ev_cS (ea_cons ev_cS ea_nil)) (by simp))) (by simp)) fun l4 xs4 H4 hl4 e4 g4 g4' => ?_)
    have hm := fmod_pos (a := way) (b := 22) (by decide)
    obtain ⟨k, ek, hk⟩ : ∃ k : Nat, way.fmod 22 = (k : Int) ∧ k < 22 := ⟨(way.fmod 22).toNat, by omega, by omega⟩
    have all : ∀ d ∈ (([PyData.str (Str.ofString "0" ++ Txt.replace (txt (numI i)) (Str.ofString "-") (Str.ofString "")), .str (Str.ofString "+1"), .str (Str.ofString "-0"), .str (Str.ofString "1_0"), .str (Str.ofString "x"), .str (Str.ofString "-"), .str (Str.ofString "--1"), .str (Str.ofString "1."), .str (Str.ofString "1000000000000001")] ++ [.str (Str.ofString "-1000000000000001")]) ++
        [.str (Str.ofString "-12345678901234567"), .str (Str.ofString "\t1"), .str (Str.ofString "1\t"), .str (Str.ofString ""), .str (Str.ofString " "), .str (txt (numI i) ++ Str.ofString "-"), .str (Str.ofString "0x1"), .str (txt (numI i) ++ Str.ofString " "), .str (Str.ofString "00"), .str (Str.ofString "- 1")]) ++ [.str (Str.ofString "-01"), .str (Str.ofString "-007")],
        ∃ z : Str, d = .str z ∧ badW (TL.tl z) = true := by
      intro d hd
      simp only [List.cons_append, List.nil_append, List.mem_cons, List.not_mem_nil, or_false] at hd
      rcases hd with rfl | rfl | rfl | rfl | rfl | rfl | rfl | rfl | rfl | rfl | rfl | rfl | rfl | rfl | rfl | rfl | rfl | rfl | rfl | rfl | rfl | rfl
      · exact ⟨_, rfl, by rw [r1]; exact b1⟩
      all_goals first
        | exact ⟨_, rfl, by decide +kernel⟩
        | exact ⟨_, rfl, by rw [r2]; exact b2⟩
        | exact ⟨_, rfl, by rw [r3]; exact b3⟩
    obtain ⟨d, hd⟩ : ∃ d, ((([PyData.str (Str.ofString "0" ++ Txt.replace (txt (numI i)) (Str.ofString "-") (Str.ofString "")), .str (Str.ofString "+1"), .str (Str.ofString "-0"), .str (Str.ofString "1_0"), .str (Str.ofString "x"), .str (Str.ofString "-"), .str (Str.ofString "--1"), .str (Str.ofString "1."), .str (Str.ofString "1000000000000001")] ++ [.str (Str.ofString "-1000000000000001")]) ++
        [.str (Str.ofString "-12345678901234567"), .str (Str.ofString "\t1"), .str (Str.ofString "1\t"), .str (Str.ofString ""), .str (Str.ofString " "), .str (txt (numI i) ++ Str.ofString "-"), .str (Str.ofString "0x1"), .str (txt (numI i) ++ Str.ofString " "), .str (Str.ofString "00"), .str (Str.ofString "- 1")]) ++ [.str (Str.ofString "-01"), .str (Str.ofString "-007")])[k]? = some d := ⟨_, List.getElem?_eq_getElem (by simpa using hk)⟩
    obtain ⟨z, rfl, hz⟩ := all d (List.mem_of_getElem? hd)
    refine s_nx (s_ret (K := K) (d := .str z) (ev_op (el_var rfl g4 g4').dd (ev_op (ev_varI rfl) ev_cI (rd_I (by decide))) (rd_ixL ek hd)) fun v H5 e5 hv => ?_)
    obtain rfl := dp_str hv
    have := q (TL.tl z) H5 (ex_tr e1 (ex_tr e2 (ex_tr e3 (ex_tr e4 e5)))) hz
    rw [txt_tl] at this
    exact this
abbrev s__law_bad_text : Stmt := topS 24
theorem sc__law_bad_text : FnScope ["text", "way", "cell", "rows", "at", "words", "place", "heads", "wide"] ["text", "way", "cell"] (defScope s__law_bad_text) := ⟨rfl, rfl, rfl, by decide +kernel, rfl, by decide +kernel, by decide +kernel⟩
theorem ok__law_bad_text {f : Addr} {fd : FuncData} (F : Fun K "_law_bad_text" "_law_bad_text" s__law_bad_text f fd) (T : Ctx P K mg base) (C__law_bad_word : Cal P w K mg base 41 "_law_bad_word" ["way", "word"] (spBadW K)) : FnOk P w K mg base CX0 42 f fd ["text", "way", "cell"] (spBadT K) := by
  have sc := sc__law_bad_text
  have B := T.bl
  refine F.ok sc (fun vs H Q E h => ?_) (fun cdv A outer s H vs Q E hr h => ?_)
  · obtain ⟨W, S, way, cell, rfl, _⟩ := h
    rfl
  · obtain ⟨W, S, way, cell, rfl, ok, hS, hw0, hw1, hc0, hc1, q⟩ := h
    refine ⟨_, (pss_cons (ps_set (i := 3) sc.nd rfl (.inl rfl) (pe_split (pv 0) pe_str))
      (pss_cons (ps_set (i := 4) sc.nd rfl (.inl rfl) (pe_op (addK K) pe_int (pe_op op_modN (pv 2) (pe_op op_sub (pe_callB (lenK K) (by rfl) B.len (by decide +kernel) (pa_cons (pv 3) pa_nil)) pe_int))))
      (pss_cons (ps_set (i := 5) sc.nd rfl (.inl rfl) (pe_split (pe_ix (ixK K) (pv 3) (pv 4) (fun _ _ => rfl)) pe_str))
      (pss_cons (ps_set (i := 6) sc.nd rfl (.inl rfl) (pe_op op_modN (pe_op op_fdivN (pv 2) pe_int) (pe_callB (lenK K) (by rfl) B.len (by decide +kernel) (pa_cons (pv 5) pa_nil))))
      (Evl.pss_cut (ps_if (pt_cmpR op_lt (pv 1) pe_int (nomark _)) (pss_cons (ps_asg (pe_cal C__law_bad_word hr (by decide) (by rfl) (pa_cons (pv 1) (pa_cons (pe_ix (ixK K) (pv 5) (pv 6) (fun _ _ => rfl)) pa_nil))) (pg_sub (pv 5) (pv 6) set_list))
      (pss_one (ps_asg (pe_join pe_str (pv 5)) (pg_sub (pv 3) (pv 4) set_list)))) (pss_one (ps_if (pt_cmpR (eqK K hr.units) (pv 1) pe_int (nomark _)) (pss_one (ps_asg (pe_op (addK K) (pe_ix (ixK K) (pv 3) (pv 4) (fun _ _ => rfl)) pe_str) (pg_sub (pv 3) (pv 4) set_list))) (pss_one (ps_if (pt_cmpR (eqK K hr.units) (pv 1) pe_int (nomark _)) (pss_one (ps_asg (pe_op (addK K) pe_str (pe_ix (ixK K) (pv 3) (pv 4) (fun _ _ => rfl))) (pg_sub (pv 3) (pv 4) set_list))) (pss_one (ps_if (pt_cmpR (eqK K hr.units) (pv 1) pe_int (nomark _)) (pss_one (ps_expr (pe_bm PySem.F.plainAttrs_list PySem.F.slot_list_insert PySem.F.type_list_insert mt_ins (pv 3) (pa_cons (pe_op (addK K) pe_int (pe_op op_modN (pv 2) (pe_callB (lenK K) (by rfl) B.len (by decide +kernel) (pa_cons (pv 3) pa_nil)))) (pa_cons pe_str pa_nil))))) (pss_one (ps_if (pt_cmpR (eqK K hr.units) (pv 1) pe_int (nomark _)) (pss_one (ps_set (i := 3) sc.nd rfl (.inl rfl) (pe_op (addK K) (pv 3) (pe_op opMul (pe_lst (pa_cons (pe_ix (ixK K) (pv 3) pe_int (fun _ _ => rfl)) pa_nil)) pe_int)))) (pss_one (ps_if (pt_cmpR op_lt (pv 1) pe_int (nomark _)) (pss_cons (ps_set (i := 7) sc.nd rfl (.inl rfl) (pe_lst (pa_cons pe_str (pa_cons pe_str (pa_cons pe_str (pa_cons pe_str (pa_cons pe_str (pa_cons pe_str (pa_cons pe_str (pa_cons pe_str (pa_cons pe_str pa_nil)))))))))))
      (pss_cons (ps_set (i := 7) sc.nd rfl (.inl rfl) (pe_op (addK K) (pv 7) (pe_lst (pa_cons pe_str (pa_cons pe_str (pa_cons pe_str (pa_cons pe_str pa_nil)))))))
      (pss_one (ps_asg (pe_ix (ixK K) (pv 7) (pe_op op_sub (pv 1) pe_int) (fun _ _ => rfl)) (pg_sub (pv 3) pe_int set_list))))) (pss_one (ps_if (pt_cmpR op_lt (pv 1) pe_int (nomark _)) (pss_one (ps_ret (pe_ix (ixK K) (pe_lst (pa_cons pe_str (pa_cons (pe_op (addK K) pe_str (pv 0)) (pa_cons pe_str pa_nil)))) (pe_op op_sub (pv 1) pe_int) (fun _ _ => rfl)))) (pss_cons (ps_set (i := 8) sc.nd rfl (.inl rfl) (pe_lst (pa_cons pe_str (pa_cons pe_str (pa_cons pe_str (pa_cons pe_str (pa_cons pe_str (pa_cons pe_str pa_nil))))))))
      (pss_cons (ps_if (pt_cmpR (eqK K hr.units) (pv 1) pe_int (nomark _)) (pss_cons (ps_expr (pe_bm PySem.F.plainAttrs_list PySem.F.slot_list_pop PySem.F.type_list_pop mt_popAt (pv 5) (pa_cons (pv 6) pa_nil)))
      (pss_cons (ps_asg (pe_join pe_str (pv 5)) (pg_sub (pv 3) (pv 4) set_list))
      (pss_one (ps_ret (pe_join pe_str (pv 3)))))) pss_nil)
      (pss_one (ps_ret (pe_ix (ixK K) (pe_op (addK K) (pv 8) (pe_lst (pa_cons pe_str pa_nil))) (pe_op op_sub (pv 1) pe_int) (fun _ _ => rfl)))))))))))))))))))
      (pss_one (ps_ret (pe_join pe_str (pv 3))))))))), ?_⟩
    have mo : ∀ {k : Int} {a : Int}, k ≠ 0 → RD K (rI (fun _ j => j ≠ 0) fun i j => .int (i.fmod j)) (.int a) (.int k) (.int (a.fmod k)) := fun h => rd_I h
    have dv : ∀ {k : Int} {a : Int}, CDivN a k → RD K (rI CDivN fun i j => .int (i.fdiv j)) (.int a) (.int k) (.int (a.fdiv k)) := fun h => rd_I h
    have d10 : TL.tl (Str.ofString "\n") = [10] := by decide +kernel
    have d32 : TL.tl (Str.ofString " ") = [32] := by decide +kernel
    have d0 : Str.ofString "" = txt [] := TL.ext_tl (by decide +kernel)
    have d320 : TL.tl (Str.ofString " 0") = [32, 48] := by decide +kernel
    have l10 : ((Str.ofString "\n").length == 0) = false := by decide +kernel
    have l32 : ((Str.ofString " ").length == 0) = false := by decide +kernel
    have y32 : (Str.ofString " ").length = 1 := by decide +kernel
    have y10 : (Str.ofString "\n").length = 1 := by decide +kernel
    have w1 := ok.w1
    have w4 := ok.w4
    have n6 := ok.n6
    have lt := ok.text
    have nR : (rowsL W S).length = S.length + 1 := by simp [rowsL]
    have lq2 : (Str.ofString "\n").length + (txt (textL W S)).length ≤ 100000 := by
      rw [y10]
      have : (txt (textL W S)).length = (textL W S).length := txt_len _
      omega
    have fin : ∀ {σ : L2.St} {H' : Hp} {D : Ends} {lr : Addr} {R : List (List Nat)}, D.rt = Q → σ[3]? = some (some (.ref lr)) → Dd K H' (.ref lr) (.list (R.map fun l => PyData.str (txt l))) → BadR R → Ex H H' → tRet (tM1 (rJoin K) (tC (.str (Str.ofString "\n"))) (tVar 3)) D σ H' := fun {σ H' D lr R} hD h3 hd hb e => by
      rw [← strs_D] at hd
      refine s_ret (K := K) (ev_join (ys := strsOf R) ev_cS (ev_var h3 hd) ?_) fun v H2 e2 hv => ?_
      · have b1 : ((strsOf R).map (·.length)).sum ≤ (strsOf R).length * 400 := sum_le fun z hz => by
          unfold strsOf at hz
          obtain ⟨w, hw', rfl⟩ := List.mem_map.mp hz
          rw [txt_len]
          exact (hb.fr w hw').2
        have n1 : (strsOf R).length = R.length := by simp [strsOf]
        have := hb.n
        rw [n1] at b1 ⊢
        rw [y10]
        omega
      · obtain rfl := dp_str hv
        rw [hD, join_txt d10]
        exact q _ H2 (ex_tr e e2) hb.parse hb.len
    refine s_seq (s_asgF (K := K) (EvF.to (ef_split (ev_varS rfl) ev_cS l10 (by rw [txt_len]; omega)) (by rw [split_rows d10, tl_txt, rows_text, strs_D])) fun l xs H1 hl e1 g1 g1' => ?_)
    have dR : Dd K H1 (.ref l) (.list ((rowsL W S).map fun l => PyData.str (txt l))) := .lst (SqL.of g1) g1'
    have hm := fmod_pos (a := cell) (b := ((S.length : Nat) : Int)) (by omega)
    obtain ⟨i, ei, hi⟩ : ∃ i : Nat, cell.fmod ((S.length : Nat) : Int) = (i : Int) ∧ i < S.length := ⟨(cell.fmod ((S.length : Nat) : Int)).toNat, by omega, by omega⟩
    refine s_sq (s_asgI K (n := ((i + 1 : Nat) : Int)) (EvD.to (ev_op ev_cI (ev_op (ev_varI rfl) (EvD.to (ev_op (EvD.to (ev_cb (ea_cons (ev_var rfl dR) ea_nil) rc_lenL') (by rw [List.length_map, nR])) ev_cI rd_I0) (show PyData.int (((S.length + 1 : Nat) : Int) - 1) = .int ((S.length : Nat) : Int) by congr 1; omega)) (mo (by omega))) rd_addI) (by rw [ei]; congr 1; omega)) fun H2 e2 => ?_)
    have e12 := ex_tr e1 e2
    obtain ⟨p, hp⟩ : ∃ p, S[i]? = some p := ⟨_, List.getElem?_eq_getElem hi⟩
    have hpm : p ∈ S := List.mem_of_getElem? hp
    have hpl := ok.len p hpm
    have hpb := ok.bd p hpm
    have hpne : p ≠ [] := by rintro rfl; simp at hpl; omega
    have hrow : ((rowsL W S).map fun l => PyData.str (txt l))[i + 1]? = some (.str (txt (rowL p))) := by
      unfold rowsL
      simp [hp]
    have lrow := ok.row hpm
    have lq1 : (Str.ofString " ").length + (txt (rowL p)).length ≤ 100000 := by
      rw [y32]
      have : (txt (rowL p)).length = (rowL p).length := txt_len _
      omega
    have rowAt : ∀ {σ : L2.St} {H' : Hp}, σ[3]? = some (some (.ref l)) → σ[4]? = some (some (.int ((i + 1 : Nat) : Int))) → Dd K H' (.ref l) (.list ((rowsL W S).map fun l => PyData.str (txt l))) → EvD K (tOp (rIx K) (tVar 3) (tVar 4)) σ H' (.str (txt (rowL p))) := fun h3 h4 d =>
      ev_op (ev_var h3 d) (ev_varI h4) (rd_ixL rfl hrow)
    refine s_sq (s_asgF (K := K) (EvF.to (ef_split (rowAt rfl rfl (dR.up e2)) ev_cS l32 (by rw [txt_len]; omega)) (by rw [split_words d32, tl_txt, words_row hpne, strs_D])) fun l2 xs2 H3 hl2 e3 g3 g3' => ?_)
    have e13 := ex_tr e12 e3
    have o3 : Own K H H3 l ((rowsL W S).map fun l => PyData.str (txt l)) := .mk' hl e13 (e3 l _ (e2 l _ g1)) (g1'.up (ex_tr e2 e3)) (tupO_strs _)
    have nl2 : H l2 = none := ex_back e12 hl2
    have ne2 : l ≠ l2 := by
      rintro rfl
      have := e2 l _ g1
      rw [this] at hl2
      cases hl2
    have nws : ((p.map numI).map fun l => PyData.str (txt l)).length = W := by rw [List.length_map, List.length_map, hpl]
    have hm2 := fmod_pos (a := cell.fdiv 16) (b := (W : Int)) (by omega)
    obtain ⟨k, ek, hk⟩ : ∃ k : Nat, (cell.fdiv 16).fmod (W : Int) = (k : Int) ∧ k < W := ⟨((cell.fdiv 16).fmod (W : Int)).toNat, by omega, by omega⟩
    refine s_sq (s_asgI K (n := (k : Int)) (EvD.to (ev_op (ev_op (ev_varI rfl) ev_cI (dv ⟨by decide, by decide⟩)) (EvD.to (ev_cb (ea_cons (ev_var rfl (.lst (SqL.of g3) g3')) ea_nil) rc_lenL') (by rw [nws])) (mo (by omega))) (by rw [ek])) fun H4 e4 => ?_)
    have e14 := ex_tr e13 e4
    have g4 := e4 l2 _ g3
    have g4' := g3'.up e4
    have o4 := o3.up e4
    have wf : ∀ w ∈ p.map numI, 32 ∉ w := fun w hw => by
      obtain ⟨n, _, rfl⟩ := List.mem_map.mp hw
      exact numI_free (by omega)
    have rc := row_count w1 hpl
    have rowfree : 10 ∉ rowL p := rowL_free (by omega)
    have joined : ∀ {σ : L2.St} {H' : Hp} {D : Ends} {ys : List V} {ws : List (List Nat)}, σ[3]? = some (some (.ref l)) → σ[4]? = some (some (.int ((i + 1 : Nat) : Int))) → σ[5]? = some (some (.ref l2)) → H' l2 = some (.lst ys) → DdAll K H' ys (ws.map fun l => PyData.str (txt l)) → Own K H H' l ((rowsL W S).map fun l => PyData.str (txt l)) →
        ws.length ≤ 4 → (∀ w ∈ ws, 10 ∉ w ∧ w.length ≤ 60) → stepOf W (TL.joinL [32] ws) = none → (∀ R H'', BadR R → Own K H H'' l (R.map fun l => PyData.str (txt l)) → D.nx σ H'') → tAsg (tM1 (rJoin K) (tC (.str (Str.ofString " "))) (tVar 5)) (gSub (tVar 3) (tVar 4) rSetL) D σ H' := fun {σ H' D ys ws} h3 h4 h5 hy hyd o hn hf hb kk => by
      have hj : EvD K (tM1 (rJoin K) (tC (.str (Str.ofString " "))) (tVar 5)) σ H' (.str (txt (TL.joinL [32] ws))) := by
        have hd : Dd K H' (.ref l2) (.list (ws.map fun l => PyData.str (txt l))) := .lst (SqL.of hy) hyd
        rw [← strs_D] at hd
        refine EvD.to (ev_join (ys := strsOf ws) ev_cS (ev_var h5 hd) ?_) (by rw [join_txt d32])
        have b1 : ((strsOf ws).map (·.length)).sum ≤ (strsOf ws).length * 60 := sum_le fun z hz => by
          unfold strsOf at hz
          obtain ⟨w, hw', rfl⟩ := List.mem_map.mp hz
          rw [txt_len]
          exact (hf w hw').2
        have n1 : (strsOf ws).length = ws.length := by simp [strsOf]
        rw [n1] at b1 ⊢
        rw [y32]
        omega
      refine s_setO o hj rfl h3 (ev_varI h4) rfl (by rw [List.length_map, nR]; omega) fun H'' _ o' => ?_
      refine kk ((rowsL W S).set (i + 1) (TL.joinL [32] ws)) H'' (badR_set ok hi ?_ ?_ hb) ?_
      · intro hm
        rcases joinL_mem hm with hm | ⟨w, hw, hm⟩
        · cases hm
        · exact (hf w hw).1 hm
      · have := joinL_len (s := 32) fun w hw => (hf w hw).2
        have : ws.length * (60 + 1) ≤ 4 * 61 := Nat.mul_le_mul hn (Nat.le_refl _)
        omega
      · rw [List.map_set]
        exact o'
    have nlen : ∀ n ∈ p, 10 ∉ numI n ∧ (numI n).length ≤ 60 := fun n hn => ⟨numI_free (by omega), by have := numI_len (hpb n hn); omega⟩
    obtain ⟨n0, hn0⟩ : ∃ n0, p[k]? = some n0 := ⟨_, List.getElem?_eq_getElem (by omega)⟩
    have hn0m : n0 ∈ p := List.mem_of_getElem? hn0
    refine ⟨fun σ' H' => ∃ lr R, σ'[3]? = some (some (.ref lr)) ∧ Dd K H' (.ref lr) (.list (R.map fun l => PyData.str (txt l))) ∧ BadR R ∧ Ex H H', ?_, ?_⟩
    · refine s_if (et_test K (ev_op (ev_varI rfl) ev_cI rd_B0)) (fun c H5 e5 => ?_) (fun c H5 e5 => ?_)
      · -- a bad word
        have g5 := e5 l2 _ g4
        have g5' := g4'.up e5
        refine s_seq (s_setB (n := k) g5 g5' (tupO_strs _) rfl (fun Q' q' => ⟨_, rfl, ?_⟩) (ev_varI rfl) rfl (by rw [nws]; exact hk) fun b H6 ys hb x6 h6 h6' => ?_)
        · refine (ev_op (K := K) (ta := tVar 5) (tb := tVar 6) (d1 := .list ((p.map numI).map fun l => PyData.str (txt l))) (d := .str (txt (numI n0))) (ev_var rfl (.lst (SqL.of g5) g5')) (ev_varI rfl) (rd_ixL rfl (by rw [List.map_map, List.getElem?_map, hn0]; rfl))) H5 ex_refl _ fun v H6 e6 hv => ?_
          obtain rfl := dp_str hv
          exact ⟨way, n0, rfl, hpb n0 hn0m, fun b H7 e7 hb => q' b H7 (ex_tr e6 e7) hb⟩
        · obtain ⟨b1, b2, b3⟩ := badW_iff hb
          have o6 := (o4.up e5).up1 x6 g5 nl2 ne2
          rw [show ((p.map numI).map fun l => PyData.str (txt l)).set k (.str (txt b)) = ((p.map numI).set k b).map fun l => PyData.str (txt l) by rw [List.map_set]] at h6'
          exact joined rfl rfl rfl h6 h6' o6 (by rw [List.length_set, List.length_map, hpl]; exact w4) (fun w hw => by
            rcases List.mem_or_eq_of_mem_set hw with hw | rfl
            · obtain ⟨n, hn, rfl⟩ := List.mem_map.mp hw
              exact nlen n hn
            · exact ⟨b2, b1⟩) (step_set (by rw [List.length_map, hpl]) wf (by rw [List.length_map, hpl]; exact hk) b3) fun R H'' hR o => ⟨l, R, rfl, o.dp, hR, o.ex⟩
      have w22 := of_decide_eq_false c
      refine s_if (et_test K (ev_op (ev_varI rfl) ev_cI (rd_eq rfl rfl))) (fun c H6 e6 => ?_) (fun c1 H6 e6 => ?_)
      · -- one more
        have o6 := o4.up (ex_tr e5 e6)
        refine s_setO (d := .str (txt (rowL p ++ [32, 48]))) o6 (EvD.to (ev_op (rowAt rfl rfl o6.dp) ev_cS (rd_addS (by rw [txt_len, TL.len_tl, d320]; simp; omega))) ?_) rfl rfl (ev_varI rfl) rfl (by rw [List.length_map, nR]; omega) fun H'' _ o' => ⟨l, (rowsL W S).set (i + 1) (rowL p ++ [32, 48]), rfl, by rw [List.map_set]; exact o'.dp, badR_set ok hi ?_ (by simp; omega) (step_many ?_), o'.ex⟩
        · congr 1
          apply TL.ext_tl
          rw [TL.tl_append, d320]
        · intro hm
          rcases List.mem_append.mp hm with hm | hm
          · exact rowfree hm
          · simp at hm
        · rw [List.count_append]
          have : ([32, 48] : List Nat).count 32 = 1 := by decide
          omega
      refine s_if (et_test K (ev_op (ev_varI rfl) ev_cI (rd_eq rfl rfl))) (fun c H7 e7 => ?_) (fun c2 H7 e7 => ?_)
      · -- a blank ahead
        have o7 := o4.up (ex_tr e5 (ex_tr e6 e7))
        refine s_setO (d := .str (txt (32 :: rowL p))) o7 (EvD.to (ev_op ev_cS (rowAt rfl rfl o7.dp) (rd_addS lq1)) ?_) rfl rfl (ev_varI rfl) rfl (by rw [List.length_map, nR]; omega) fun H'' _ o' => ⟨l, (rowsL W S).set (i + 1) (32 :: rowL p), rfl, by rw [List.map_set]; exact o'.dp, badR_set ok hi ?_ (by simp; omega) (step_many ?_), o'.ex⟩
        · congr 1
          apply TL.ext_tl
          rw [TL.tl_append, d32]
          rfl
        · intro hm
          rcases List.mem_cons.mp hm with hm | hm
          · cases hm
          · exact rowfree hm
        · rw [List.count_cons_self]
          omega
      refine s_if (et_test K (ev_op (ev_varI rfl) ev_cI (rd_eq rfl rfl))) (fun c H8 e8 => ?_) (fun c3 H8 e8 => ?_)
      · -- an empty row
        have o8 := o4.up (ex_tr e5 (ex_tr e6 (ex_tr e7 e8)))
        have hm3 := fmod_pos (a := cell) (b := ((S.length + 1 : Nat) : Int)) (by omega)
        obtain ⟨j, ej, hj⟩ : ∃ j : Nat, cell.fmod ((S.length + 1 : Nat) : Int) = (j : Int) ∧ j ≤ S.length := ⟨(cell.fmod ((S.length + 1 : Nat) : Int)).toNat, by omega, by omega⟩
        have jb : ((j + 1 : Nat) : Int) < 2 ^ 63 := by
          have : (100000 : Int) < 2 ^ 63 := by decide
          omega
        refine s_insO (i := ((j + 1 : Nat) : Int)) (d := .str (txt [])) o8 rfl (EvD.to (ev_op ev_cI (ev_op (ev_varI rfl) (EvD.to (ev_cb (ea_cons (ev_var rfl o8.dp) ea_nil) rc_lenL') (by rw [List.length_map, nR])) (mo (by omega))) rd_addI) (by rw [ej]; congr 1; omega)) (by omega) jb (EvD.to ev_cS (by rw [d0])) rfl (by rw [List.length_map, nR]; omega) fun H'' _ o' => ⟨l, (rowsL W S).take (j + 1) ++ [[]] ++ (rowsL W S).drop (j + 1), rfl, ?_, badR_ins ok hj, o'.ex⟩
        rw [Int.toNat_natCast] at o'
        rw [List.map_append, List.map_append, List.map_take, List.map_drop]
        exact o'.dp
      refine s_if (et_test K (ev_op (ev_varI rfl) ev_cI (rd_eq rfl rfl))) (fun c H9 e9 => ?_) (fun c4 H9 e9 => ?_)
      · -- six rows more
        have o9 := o4.up (ex_tr e5 (ex_tr e6 (ex_tr e7 (ex_tr e8 e9))))
        obtain ⟨r1, hr1⟩ : ∃ r1, (rowsL W S)[1]? = some r1 := ⟨_, List.getElem?_eq_getElem (by omega)⟩
        refine s_asgF (K := K) (ef_addL (o9.varL rfl) (EvF.l (ef_repS (ef_lst (ea_cons (ev_op (ev_var rfl o9.dp) ev_cI (rd_ixL (n := 1) (d := .str (txt r1)) rfl (by rw [List.getElem?_map, hr1]; rfl))) ea_nil) (by simp)) ev_cI (by decide) (by decide) (by simp))) ?_) fun lr ys H10 hlr e10 g10 g10' => ⟨lr, rowsL W S ++ List.replicate 6 r1, rfl, ?_, badR_six ok hS (List.mem_of_getElem? hr1), ex_tr o9.ex e10⟩
        · rw [List.length_map, nR]
          show S.length + 1 + 6 ≤ 100000
          omega
        · rw [List.map_append]
          exact .lst (SqL.of g10) g10'
      refine s_if (et_test K (ev_op (ev_varI rfl) ev_cI rd_B0)) (fun c5 H10 e10 => ?_) (fun c5 H10 e10 => ?_)
      · -- another head
        have c5 := of_decide_eq_true c5
        have h26 : 26 ≤ way := by
          rw [eqv_intD] at c1 c2 c3 c4
          have c1 := of_decide_eq_false c1
          have c2 := of_decide_eq_false c2
          have c3 := of_decide_eq_false c3
          have c4 := of_decide_eq_false c4
          omega
        have o10 := o4.up (ex_tr e5 (ex_tr e6 (ex_tr e7 (ex_tr e8 (ex_tr e9 e10)))))
        refine s_seq (s_asgF (K := K) (ef_lst (ea_cons ev_cS (ea_cons ev_cS (ea_cons ev_cS (ea_cons ev_cS (ea_cons ev_cS (ea_cons ev_cS (ea_cons ev_cS (ea_cons ev_cS (ea_cons ev_cS ea_nil))))))))) (by simp)) fun l7 xs7 H11 hl7 e11 g11 g11' => ?_)
        refine s_sq (s_asgF (K := K) (ef_addL (el_var rfl g11 g11') (EvF.l (ef_lst (ea_cons ev_cS (ea_cons ev_cS (ea_cons ev_cS (ea_cons ev_cS ea_nil)))) (by simp))) (by simp)) fun l8 xs8 H12 hl8 e12' g12 g12' => ?_)
        have o12 := o10.up (ex_tr e11 e12')
        have all : ∀ d ∈ ([PyData.str (Str.ofString "width"), .str (Str.ofString "width 0"), .str (Str.ofString "width 5"), .str (Str.ofString "Width 1"), .str (Str.ofString "width  1"), .str (Str.ofString " width 1"), .str (Str.ofString "width 1 "), .str (Str.ofString "1"), .str (Str.ofString "width 01")] ++ [.str (Str.ofString "width x"), .str (Str.ofString "width "), .str (Str.ofString "width +2"), .str (Str.ofString "width 12")]),
            ∃ z : Str, d = .str z ∧ badH (TL.tl z) = true := by
          intro d hd
          simp only [List.cons_append, List.nil_append, List.mem_cons, List.not_mem_nil, or_false] at hd
          rcases hd with rfl | rfl | rfl | rfl | rfl | rfl | rfl | rfl | rfl | rfl | rfl | rfl | rfl
          all_goals exact ⟨_, rfl, by decide +kernel⟩
        obtain ⟨j, ej, hj⟩ : ∃ j : Nat, way - 26 = (j : Int) ∧ j < 13 := ⟨(way - 26).toNat, by omega, by omega⟩
        obtain ⟨d, hd⟩ : ∃ d, ([PyData.str (Str.ofString "width"), .str (Str.ofString "width 0"), .str (Str.ofString "width 5"), .str (Str.ofString "Width 1"), .str (Str.ofString "width  1"), .str (Str.ofString " width 1"), .str (Str.ofString "width 1 "), .str (Str.ofString "1"), .str (Str.ofString "width 01")] ++ [.str (Str.ofString "width x"), .str (Str.ofString "width "), .str (Str.ofString "width +2"), .str (Str.ofString "width 12")])[j]? = some d := ⟨_, List.getElem?_eq_getElem (by simpa using hj)⟩
        obtain ⟨z, rfl, hz⟩ := all d (List.mem_of_getElem? hd)
        refine s_nx (s_setO (d := .str z) o12 (ev_op (el_var rfl g12 g12').dd (ev_op (ev_varI rfl) ev_cI rd_I0) (rd_ixL ej hd)) rfl rfl ev_cI (n := 0) rfl (by rw [List.length_map, nR]; omega) fun H'' _ o' => ⟨l, (rowsL W S).set 0 (TL.tl z), rfl, ?_, badR_head ok hz, o'.ex⟩)
        rw [List.map_set, txt_tl]
        exact o'.dp
      have h39 := of_decide_eq_false c5
      refine s_if (et_test K (ev_op (ev_varI rfl) ev_cI rd_B0)) (fun c6 H11 e11 => ?_) (fun c6 H11 e11 => ?_)
      · -- other texts
        have c6 := of_decide_eq_true c6
        have all : ∀ d ∈ [PyData.str (Str.ofString ""), .str (Str.ofString "\n" ++ txt (textL W S)), .str (Str.ofString "\n")], ∃ z : Str, d = .str z ∧ parse (TL.tl z) = none ∧ (TL.tl z).length ≤ 80000 := by
          intro d hd
          simp only [List.mem_cons, List.not_mem_nil, or_false] at hd
          rcases hd with rfl | rfl | rfl
          · exact ⟨_, rfl, by decide +kernel, by decide +kernel⟩
          · refine ⟨_, rfl, ?_, ?_⟩
            · rw [TL.tl_append, d10, tl_txt]
              show parseR (TL.spl [10] 0 [] (10 :: textL W S)) = none
              rw [TL.spl_hit (by rw [pre_one]; rfl)]
              exact parseR_head (by decide +kernel)
            · rw [TL.tl_append, d10, tl_txt]
              rw [txt_len] at *
              simp
              omega
          · exact ⟨_, rfl, by decide +kernel, by decide +kernel⟩
        obtain ⟨j, ej, hj⟩ : ∃ j : Nat, way - 39 = (j : Int) ∧ j < 3 := ⟨(way - 39).toNat, by omega, by omega⟩
        obtain ⟨d, hd⟩ : ∃ d, [PyData.str (Str.ofString ""), .str (Str.ofString "\n" ++ txt (textL W S)), .str (Str.ofString "\n")][j]? = some d := ⟨_, List.getElem?_eq_getElem (by simpa using hj)⟩
        obtain ⟨z, rfl, hz, hz2⟩ := all d (List.mem_of_getElem? hd)
        refine s_ret (K := K) (d := .str z) (ev_op (ef_lst (ea_cons ev_cS (ea_cons (ev_op ev_cS (ev_varS rfl) (rd_addS lq2)) (ea_cons ev_cS ea_nil))) (by simp)).dd (ev_op (ev_varI rfl) ev_cI rd_I0) (rd_ixL ej hd)) fun v H12 e12' hv => ?_
        obtain rfl := dp_str hv
        have := q (TL.tl z) H12 (ex_tr e14 (ex_tr e5 (ex_tr e6 (ex_tr e7 (ex_tr e8 (ex_tr e9 (ex_tr e10 (ex_tr e11 e12')))))))) hz hz2
        rw [txt_tl] at this
        exact this
      have h42 := of_decide_eq_false c6
      have e511 := ex_tr e5 (ex_tr e6 (ex_tr e7 (ex_tr e8 (ex_tr e9 (ex_tr e10 e11)))))
      refine s_seq (s_asgF (K := K) (ef_lst (ea_cons ev_cS (ea_cons ev_cS (ea_cons ev_cS (ea_cons ev_cS (ea_cons ev_cS (ea_cons ev_cS ea_nil)))))) (by simp)) fun l8 xs8 H12 hl8 e12' g12 g12' => ?_)
      have e512 := ex_tr e511 e12'
      refine s_sq (s_if (et_test K (ev_op (ev_varI rfl) ev_cI (rd_eq rfl rfl))) (fun c7 H13 e13' => ?_) (fun c7 H13 e13' => s_next ?_))
      · -- a word left out
        have e513 := ex_tr e512 e13'
        have g13 := e513 l2 _ g4
        have g13' := g4'.up e513
        refine s_seq (s_pop1 (k := k) g13 g13' (tupO_strs _) rfl (ev_varI rfl) rfl (by rw [nws]; exact hk) (by rw [nws]; omega) fun H14 ys x14 h14 h14' => ?_)
        have o14 := (o4.up e513).up1 x14 g13 nl2 ne2
        have er : ((p.map numI).map fun l => PyData.str (txt l)).eraseIdx k = ((p.map numI).eraseIdx k).map fun l => PyData.str (txt l) := by
          exact erase_map _ _ _
        rw [er] at h14'
        have lel : ((p.map numI).eraseIdx k).length ≤ 4 := by
          have := List.length_eraseIdx_le (p.map numI) k
          rw [List.length_map, hpl] at this
          omega
        refine s_sq (joined rfl rfl rfl h14 h14' o14 lel (fun w hw => by
            obtain ⟨n, hn, rfl⟩ := List.mem_map.mp (List.mem_of_mem_eraseIdx hw)
            exact nlen n hn) (step_pop (by rw [List.length_map, hpl]) wf hk) fun R H'' hR o => ?_)
        exact fin rfl rfl o.dp hR o.ex
      · have c7 : ¬ way = 49 := by
          rw [eqv_intD] at c7
          exact of_decide_eq_false c7
        have all : ∀ d ∈ ([PyData.str (Str.ofString "width 5\n1 2 3 4 5"), .str (Str.ofString "width 0"), .str (Str.ofString "width 5"), .str (Str.ofString "width 12"), .str (Str.ofString "width -1"), .str (Str.ofString "width 5\n0 0 0 0 0\n1 2 3 4 5")] ++ [.str (Str.ofString "width 99")]), ∃ z : Str, d = .str z ∧ parse (TL.tl z) = none ∧ (TL.tl z).length ≤ 80000 := by
          intro d hd
          simp only [List.cons_append, List.nil_append, List.mem_cons, List.not_mem_nil, or_false] at hd
          rcases hd with rfl | rfl | rfl | rfl | rfl | rfl | rfl
          all_goals exact ⟨_, rfl, by decide +kernel, by decide +kernel⟩
        obtain ⟨j, ej, hj⟩ : ∃ j : Nat, way - 42 = (j : Int) ∧ j < 7 := ⟨(way - 42).toNat, by omega, by omega⟩
        obtain ⟨d, hd⟩ : ∃ d, ([PyData.str (Str.ofString "width 5\n1 2 3 4 5"), .str (Str.ofString "width 0"), .str (Str.ofString "width 5"), .str (Str.ofString "width 12"), .str (Str.ofString "width -1"), .str (Str.ofString "width 5\n0 0 0 0 0\n1 2 3 4 5")] ++ [.str (Str.ofString "width 99")])[j]? = some d := ⟨_, List.getElem?_eq_getElem (by simpa using hj)⟩
        obtain ⟨z, rfl, hz, hz2⟩ := all d (List.mem_of_getElem? hd)
        refine s_nx (s_ret (K := K) (d := .str z) (ev_op (ef_addL (el_var rfl (e13' l8 _ g12) (g12'.up e13')) (EvF.l (ef_lst (ea_cons ev_cS ea_nil) (by simp))) (by simp)).dd (ev_op (ev_varI rfl) ev_cI rd_I0) (rd_ixL ej hd)) fun v H14 e14' hv => ?_)
        obtain rfl := dp_str hv
        have := q (TL.tl z) H14 (ex_tr e14 (ex_tr e512 (ex_tr e13' e14'))) hz hz2
        rw [txt_tl] at this
        exact this
    · rintro σ' H' ⟨lr, R, h3, hd, hR, e'⟩
      exact fin rfl h3 hd hR e'
abbrev s__law_refused : Stmt := topS 25
theorem sc__law_refused : FnScope ["text", "turn", "told", "e"] ["text"] (defScope s__law_refused) := ⟨rfl, rfl, rfl, by decide +kernel, rfl, by decide +kernel, by decide +kernel⟩
theorem ok__law_refused {f C D1 D2 D3 D4 D5 D6 : Addr} {fd : FuncData} (F : Fun K "_law_refused" "_law_refused" s__law_refused f fd) (T : Ctx P K mg base) (E_FieldError : ErrC K mg "FieldError" D6) (S_NoField_FieldError : PySem.W.subIn K (.ref D3) (.ref D6) = some true) (Y_NoField : ExcC K D3) (I_NoField_BadStep : PySem.W.kitOne K (.ref D3) (.ref D1) = some false) (I_NoField_BadWidth : PySem.W.kitOne K (.ref D3) (.ref D2) = some false) (I_NoField_NoField : PySem.W.kitOne K (.ref D3) (.ref D3) = some true) (I_NoField_TooMany : PySem.W.kitOne K (.ref D3) (.ref D4) = some false) (I_NoField_Unlike : PySem.W.kitOne K (.ref D3) (.ref D5) = some false) (I_NoField_ValueError : PySem.W.kitOne K (.ref D3) (.type "ValueError") = some true)
    (X_read : CalX P w K mg base 43 "read" ["text"] (spReadX C D3 K)) (C__law_which : CalP P w K mg base 41 "_law_which" ["e"] (spWhich K D1 D2 D3 D4 D5)) (C__law_due : Cal P w K mg base 41 "_law_due" ["place"] (spF K RDue)) :
    FnOk P w K mg base CX0 44 f fd ["text"] (spRefT K) := by
  have sc := sc__law_refused
  have B := T.bl
  refine F.ok sc (fun vs H Q E h => ?_) (fun cdv A outer s H vs Q E hr h => ?_)
  · obtain ⟨z, rfl, _⟩ := h
    rfl
  · obtain ⟨z, rfl, hz, hp, q⟩ := h
    refine ⟨_, (pss_cons (ps_for PassesOwn.never rfl (pi_range1 (by rfl) B.range (pa_cons pe_int pa_nil)) (pg_name (i := 1) sc.nd rfl (.inl rfl)) (pss_cons (ps_set (i := 2) sc.nd rfl (.inl rfl) (pe_lst pa_nil))
      (pss_cons (ps_try_as (i := 3) rfl rfl sc.nd rfl rfl ⟨rfl, by decide, .inl E_FieldError.gX⟩ takes0 (fun W pn xe tk _ => (pss_one (ps_expr (pe_calX X_read hr (by decide) tk (by rfl) (pa_cons (pv 0) pa_nil))))) (fun a_ oe_ cls_ d_ _ hz hf => (pss_one (ps_set (i := 2) sc.nd rfl (.inl rfl) (pe_calP C__law_which (roomH_mark (L2H.roomH_of hr)) (by decide) List.mem_cons_self hz hf (by rfl) (pa_cons (pv 3) pa_nil))))))
      (pss_one (ps_if (pt_cmpR (neK K hr.units) (pv 2) (pe_cal C__law_due hr (by decide) (by rfl) (pa_cons pe_int pa_nil)) (nomark _)) (pss_one (ps_ret pe_bl)) pss_nil)))))
      (pss_one (ps_ret pe_bl))), ?_⟩
    refine s_seq (s_forR1 K (n := 2) (ea_cons ev_cI ea_nil) (by decide) (by decide) (fun i σ' H' => ∃ t td, σ' = [some (.str z), t, td, none] ∧ Ex H H') (fun H1 e1 => ⟨none, none, rfl, e1⟩) ?_ ?_)
    · rintro i σ' H' hi ⟨t, td, rfl, e0⟩
      refine s_seq (s_asgF (K := K) (ds := []) (ef_lst ea_nil (by simp)) fun l0 xs0 H1 hl0 e1 g1 g1' => ?_)
      refine s_sq ?_
      have e01 := ex_tr e0 e1
      refine ⟨_, rfl, z, rfl, hz, fun W S hp' => ?_, fun _ H2 e2 => ?_⟩
      · rw [hp] at hp'
        cases hp'
      refine ⟨true, E_FieldError.exm S_NoField_FieldError, fun _ x hx => ?_, fun z => nomatch z⟩
      have e02 := ex_tr e01 e2
      refine ⟨_, rfl, _, false, false, true, false, false, true, rfl, rfl, rfl, Y_NoField, I_NoField_BadStep, I_NoField_BadWidth, I_NoField_NoField, I_NoField_TooMany, I_NoField_Unlike, I_NoField_ValueError, fun l xs H5 hl e5 h5 h5' => ?_⟩
      have e05 := ex_tr e02 e5
      have h5'' : DdAll K H5 xs (dueD 2) := h5'
      refine (s_if (b := false) (EvB.to (et_test K (ev_op (el_var rfl h5 h5'').dd (ef_call (ea_cons ev_cI ea_nil) (spF_go ⟨2, rfl, rfl⟩)).dd (rd_ne (by decide) (by decide)))) (by decide)) (fun z => by cases z) fun _ H6 e6 => s_next ⟨_, _, rfl, ex_tr e05 e6⟩)
    · rintro σ' H' ⟨t, td, rfl, e0⟩
      exact s_nx (s_ret (K := K) ev_cB fun v H1 e1 hv => by
        obtain rfl := dp_bl hv
        exact q H1 (ex_tr e0 e1))
abbrev s__law_a_number : Stmt := topS 26
theorem sc__law_a_number : FnScope ["word", "figures", "sign"] ["word"] (defScope s__law_a_number) := ⟨rfl, rfl, rfl, by decide +kernel, rfl, by decide +kernel, by decide +kernel⟩
theorem ok__law_a_number {f : Addr} {fd : FuncData} (F : Fun K "_law_a_number" "_law_a_number" s__law_a_number f fd) (T : Ctx P K mg base) : FnOk P w K mg base CX0 41 f fd ["word"] (spD K RANum) := by
  have sc := sc__law_a_number
  have B := T.bl
  refine F.ok sc (fun vs H Q E h => ?_) (fun cdv A outer s H vs Q E hr h => ?_)
  · obtain ⟨ds, d, hv, ⟨z, rfl, _⟩, _⟩ := h
    exact hv.len
  · obtain ⟨ds, d, hv, ⟨z, rfl, hz, rfl⟩, q⟩ := h
    obtain ⟨x, rfl, hx⟩ := dd1 hv
    obtain rfl := dp_str hx
    refine ⟨_, (pss_cons (ps_set (i := 1) sc.nd rfl (.inl rfl) (pv 0))
      (Evl.pss_cut (ps_if (pt_cmpR op_eq (pe_slice (slK K) (pv 0) po_none (po_some pe_int)) pe_str (nomark _)) (pss_one (ps_set (i := 1) sc.nd rfl (.inl rfl) (pe_slice (slK K) (pv 0) (po_some pe_int) po_none))) pss_nil)
      (pss_cons (ps_if (PW.pt (pw_or (pt_not (pt_chain op_le op_le pe_int (pe_callB call_len_str (by rfl) B.len (by decide +kernel) (pa_cons (pv 1) pa_nil)) pe_int)) (pw_or1 (pt_cmpR op_gt (pe_callB (lenK K) (by rfl) B.len (by decide +kernel) (pa_cons (pe_lc (own := [("sign", 2)]) rfl sc.nd (pi_str (pv 1)) (blkOk_by (own := [("sign", 2)]) (N := ["word", "figures", "sign"]) (sc := defScope s__law_a_number) (by decide +kernel)) (fun _ _ _ _ _ => (pg_name (i := 2) sc.nd rfl (.inl rfl))) (fun _ _ _ _ _ => (pts_one (pt_cmpR op_notIn_sign (pv 2) pe_str (by rfl)))) (fun _ _ _ _ _ => (pv 2))) pa_nil)) pe_int (nomark _))))) (pss_one (ps_ret pe_non)) pss_nil)
      (pss_cons (ps_if (PW.pt (pw_or (PW.pt (pw_and (pt_cmpR op_eq (pe_ix (ixK K) (pv 1) pe_int (fun _ _ => rfl)) pe_str (nomark _)) (pw_and1 (pt_cmpR op_ne (pv 0) pe_str (nomark _))))) (pw_or1 (pt_cmpR op_gt (pe_callTy call_int_str (by rfl) B.int_ (by decide +kernel) (pa_cons (pv 1) pa_nil)) (pe_op op_pow pe_int pe_int) (nomark _))))) (pss_one (ps_ret pe_non)) pss_nil)
      (pss_one (ps_ret (pe_callTy call_int_str (by rfl) B.int_ (by decide +kernel) (pa_cons (pv 0) pa_nil)))))))), ?_⟩
    have lz : z.length ≤ 100000 := by omega
    generalize hw : TL.tl z = wd at q
    have zl : z.length = wd.length := by rw [TL.len_tl, hw]
    rw [numOf_other] at q
    have d45 : TL.tl (Str.ofString "-") = [45] := by decide +kernel
    have d48 : TL.tl (Str.ofString "0") = [48] := by decide +kernel
    have dten : TL.tl (Str.ofString "0123456789") = [48, 49, 50, 51, 52, 53, 54, 55, 56, 57] := by decide +kernel
    have fc := figs_cases wd
    have lf : (figsOf wd).length ≤ wd.length := by
      rcases fc with ⟨_, e⟩ | ⟨_, e⟩
      · have := congrArg List.length e
        simp at this
        omega
      · rw [e]; exact Nat.le_refl _
    have t1 : decide (TL.tl (cutS z none (some ((1 : Nat) : Int))) = TL.tl (Str.ofString "-")) = decide (wd.head? = some 45) := by
      rw [tl_cut_to, d45, hw]
      cases wd with
      | nil => rfl
      | cons c r => simp
    refine s_seq (s_asgS K (n := z) (ev_varS rfl) fun H1 e1 => ?_)
    refine ⟨fun σ' H' => σ' = [some (.str z), some (.str (txt (figsOf wd))), none] ∧ Ex H H', ?_, ?_⟩
    · refine s_if (b := decide (wd.head? = some 45)) (EvB.to (et_test K (ev_op (ev_slS (ev_varS rfl) eo_none (eo_some K ev_cI) lz) ev_cS rd_eqS)) t1) (fun c H2 e2 => ?_) (fun c H2 e2 => s_next ⟨?_, ex_tr e1 e2⟩)
      · have c := of_decide_eq_true c
        refine s_asgS K (n := txt (figsOf wd)) (EvD.to (ev_slS (ev_varS rfl) (eo_some K ev_cI) eo_none lz) ?_) fun H3 e3 => ⟨rfl, ex_tr e1 (ex_tr e2 e3)⟩
        congr 1
        apply TL.ext_tl
        have : TL.tl (cutS z (some ((1 : Nat) : Int)) none) = (TL.tl z).drop 1 := tl_cut_from
        refine this.trans ?_
        rw [hw]
        rcases fc with ⟨_, e⟩ | ⟨e, _⟩
        · rw [e]; rfl
        · exact absurd c e
      · have c := of_decide_eq_false c
        have ez : z = txt (figsOf wd) := by
          apply TL.ext_tl
          rcases fc with ⟨e, _⟩ | ⟨_, e⟩
          · exact absurd e c
          · rw [hw, tl_txt, e]
        show [some (V.str z), some (V.str z), none] = [some (V.str z), some (V.str (txt (figsOf wd))), none]
        rw [← ez]
    rintro σ2 H2 ⟨rfl, e2⟩
    have lx : (txt (figsOf wd)).length = (figsOf wd).length := txt_len _
    refine s_seq (s_if (b := decide (¬ (1 ≤ (figsOf wd).length ∧ (figsOf wd).length ≤ 16) ∨ ¬ (figsOf wd).all digit = true)) (EvB.to (et_or (et_not (et_test K (ev_chain ev_cI (ev_cb (ea_cons (ev_varS rfl) ea_nil) (rc_lenS (by omega))) (fun _ => ev_cI) rd_B0 fun _ => rd_B0))) fun c =>
      et_test K (ev_op (ev_cb (ea_cons (EvF.dd (ef_lc (fun i => !digit ((figsOf wd).getD i 0)) (fun i => .str ⟨#[(figsOf wd).getD i 0]⟩) (ei_str K (ev_varS rfl)) ?_ (hwBS (j := 2) (vs := [2]) fun _ => rfl) ?_)) ea_nil) rc_lenL') ev_cI rd_B0)) ?_) (fun c H3 e3 => ?_) fun c H3 e3 => s_next ?_)
    · rw [lx] at c
      simp at c
      show (figsOf wd).toArray.size ≤ 50000
      rw [List.size_toArray]
      omega
    · rintro i H' σ' e hi ⟨c, hc, rfl⟩
      have hc : (figsOf wd)[i]? = some c := by
        have : (figsOf wd).toArray[i]? = some c := hc
        simpa using this
      have eg : (figsOf wd).getD i 0 = c := by rw [List.getD_eq_getElem?_getD, hc]; rfl
      refine ⟨EvB.to (et_test K (ev_op (ev_varS rfl) ev_cS rd_notSign)) ?_, fun _ => ⟨EvD.to (ev_varS rfl) (by rw [eg]), rfl⟩⟩
      rw [mem_ten dten, eg]
    · have a := all_digit (f := figsOf wd) (v := fun i => .str ⟨#[(figsOf wd).getD i 0]⟩)
      have sz : (txt (figsOf wd)).cps.size = (figsOf wd).length := by simp
      rw [sz, a, lx]
      have h2 : decide ((1 : Int) ≤ (((figsOf wd).length : Nat) : Int)) = decide (1 ≤ (figsOf wd).length) := decide_eq_decide.mpr (by omega)
      have h3 : decide ((((figsOf wd).length : Nat) : Int) ≤ 16) = decide ((figsOf wd).length ≤ 16) := decide_eq_decide.mpr (by omega)
      rw [h2, h3]
      simp only [Bool.decide_or, decide_not, Bool.decide_and, Bool.decide_eq_true]
    · rw [if_pos (of_decide_eq_true c)] at q
      exact s_ret (K := K) (d := .none) ev_cN fun v H4 e4 hv => q v H4 (ex_tr e2 (ex_tr e3 e4)) hv
    have c0 := of_decide_eq_false c
    rw [if_neg c0] at q
    have hlen : 1 ≤ (figsOf wd).length ∧ (figsOf wd).length ≤ 16 := Decidable.not_not.mp fun z => c0 (.inl z)
    have hdig : (figsOf wd).all digit = true := Decidable.not_not.mp fun z => c0 (.inr z)
    have had := digit_iff.mp hdig
    have hfne : figsOf wd ≠ [] := by
      intro e
      rw [e] at hlen
      simp at hlen
    have e23 := ex_tr e2 e3
    have ten : (10 : Int) ^ (15 : Int).toNat = 1000000000000000 := by decide
    have iF : intText? (txt (figsOf wd)) = some ((NumText.digitsVal (figsOf wd) : Nat) : Int) := PySem.intText_digits (x := txt (figsOf wd)) had hfne (by omega)
    refine s_sq (s_if (b := decide (((figsOf wd).head? = some 48 ∧ wd ≠ [48]) ∨ 1000000000000000 < NumText.digitsVal (figsOf wd))) (EvB.to (et_or (et_and (et_test K (ev_op (ev_op (ev_varS rfl) ev_cI (rd_ixS (n := 0) (c := (figsOf wd).headD 0) rfl ?_ (by omega))) ev_cS rd_eqS)) fun _ => et_test K (ev_op (ev_varS rfl) ev_cS rd_neS)) fun _ => et_test K (ev_op (ev_cb (ea_cons (ev_varS rfl) ea_nil) (rc_intS iF (by omega))) (ev_op ev_cI ev_cI (rd_I ⟨by decide, by decide, by decide⟩)) rd_B0)) ?_) (fun c H4 e4 => ?_) fun c H4 e4 => s_next ?_)
    · show (figsOf wd)[0]? = _
      cases e : figsOf wd with
      | nil => exact absurd e hfne
      | cons a r => rfl
    · rw [ten, hw, d48]
      have h1 : decide (TL.tl (⟨#[(figsOf wd).headD 0]⟩ : Str) = [48]) = decide ((figsOf wd).head? = some 48) := by
        show decide ([(figsOf wd).headD 0] = [48]) = _
        cases e : figsOf wd with
        | nil => exact absurd e hfne
        | cons a r => simp
      have h2 : decide ((1000000000000000 : Int) < ((NumText.digitsVal (figsOf wd) : Nat) : Int)) = decide (1000000000000000 < NumText.digitsVal (figsOf wd)) := decide_eq_decide.mpr (by omega)
      rw [h1, h2]
      simp only [Bool.decide_or, decide_not, Bool.decide_and, ne_eq]
    · rw [if_pos (of_decide_eq_true c)] at q
      exact s_ret (K := K) (d := .none) ev_cN fun v H5 e5 hv => q v H5 (ex_tr e23 (ex_tr e4 e5)) hv
    rw [if_neg (of_decide_eq_false c)] at q
    have e24 := ex_tr e23 e4
    have lw17 : wd.length ≤ 17 := by
      rcases fc with ⟨_, e⟩ | ⟨_, e⟩
      · have := congrArg List.length e
        simp at this
        omega
      · rw [← e]; omega
    have iW : intText? z = some (if wd.head? = some 45 then -((NumText.digitsVal (figsOf wd) : Nat) : Int) else ((NumText.digitsVal (figsOf wd) : Nat) : Int)) := by
      rcases fc with ⟨h1, e⟩ | ⟨h1, e⟩
      · rw [if_pos h1]
        exact PySem.intText_neg (x := z) (cs := figsOf wd) (by rw [show z.cps.toList = wd from hw]; exact e) had hfne (by omega)
      · rw [if_neg h1]
        have ez : z = txt (figsOf wd) := TL.ext_tl (by rw [hw, tl_txt, e])
        rw [ez]
        exact iF
    exact s_nx (s_ret (K := K) (ev_cb (ea_cons (ev_varS rfl) ea_nil) (rc_intS iW (by omega))) fun v H5 e5 hv => q v H5 (ex_tr e24 e5) hv)
abbrev s__law_written : Stmt := topS 27
theorem sc__law_written : FnScope ["text", "rows", "width", "steps", "row", "step", "word"] ["text"] (defScope s__law_written) := ⟨rfl, rfl, rfl, by decide +kernel, rfl, by decide +kernel, by decide +kernel⟩
theorem ok__law_written {f : Addr} {fd : FuncData} (F : Fun K "_law_written" "_law_written" s__law_written f fd) (T : Ctx P K mg base) (C__law_a_number : Cal P w K mg base 41 "_law_a_number" ["word"] (spD K RANum)) : FnOk P w K mg base CX0 42 f fd ["text"] (spD K RWrit) := by
  have sc := sc__law_written
  have B := T.bl
  refine F.ok sc (fun vs H Q E h => ?_) (fun cdv A outer s H vs Q E hr h => ?_)
  · obtain ⟨ds, d, hv, ⟨z, rfl, _⟩, _⟩ := h
    exact hv.len
  · obtain ⟨ds, d, hv, ⟨z, rfl, hz, rfl⟩, q⟩ := h
    obtain ⟨x, rfl, hx⟩ := dd1 hv
    obtain rfl := dp_str hx
    refine ⟨_, (pss_cons (ps_set (i := 1) sc.nd rfl (.inl rfl) (pe_split (pv 0) pe_str))
      (pss_cons (ps_if (PW.pt (pw_or (pt_cmpR op_notIn_seq (pe_ix (ixK K) (pv 1) pe_int (fun _ _ => rfl)) (pe_tupZ (pa_cons pe_str (pa_cons pe_str (pa_cons pe_str (pa_cons pe_str pa_nil))))) (by rfl)) (pw_or1 (pt_cmpR op_gt (pe_callB (lenK K) (by rfl) B.len (by decide +kernel) (pa_cons (pv 1) pa_nil)) pe_int (nomark _))))) (pss_one (ps_ret pe_non)) pss_nil)
      (pss_cons (ps_set (i := 2) sc.nd rfl (.inl rfl) (pe_callTy call_int_str (by rfl) B.int_ (by decide +kernel) (pa_cons (pe_slice (slK K) (pe_ix (ixK K) (pv 1) pe_int (fun _ _ => rfl)) (po_some pe_int) po_none) pa_nil)))
      (pss_cons (ps_set (i := 3) sc.nd rfl (.inl rfl) (pe_lst pa_nil))
      (pss_cons (ps_for PassesOwn.never rfl (piLT K (pe_slice (slK K) (pv 1) (po_some pe_int) po_none)) (pg_name (i := 4) sc.nd rfl (.inl rfl)) (pss_cons (ps_setLc (i := 5) (own := [("word", 6)]) rfl sc.nd rfl rfl (sw_true rfl rfl rfl (by decide +kernel)) (piLT K (pe_split (pv 4) pe_str)) (blkOk_by (own := [("word", 6)]) (N := ["text", "rows", "width", "steps", "row", "step", "word"]) (sc := defScope s__law_written) (by decide +kernel)) (fun _ _ _ _ _ => (pg_name (i := 6) sc.nd rfl (.inl rfl))) (fun _ _ _ _ _ => pts_nil) (fun _ _ _ _ _ => (pe_cal C__law_a_number hr (by decide) (by rfl) (pa_cons (pv 6) pa_nil))))
      (pss_cons (ps_if (PW.pt (pw_or (pt_cmpR (neK K hr.units) (pe_callB (lenK K) (by rfl) B.len (by decide +kernel) (pa_cons (pv 5) pa_nil)) (pv 2) (nomark _)) (pw_or1 (pt_cmpR op_in_seq pe_non (pv 5) (by rfl))))) (pss_one (ps_ret pe_non)) pss_nil)
      (pss_one (ps_expr (pe_bm PySem.F.plainAttrs_list PySem.F.slot_list_append PySem.F.type_list_append mt_append (pv 3) (pa_cons (pe_callTy (tupleK K) (by rfl) B.tuple (by decide +kernel) (pa_cons (pv 5) pa_nil)) pa_nil)))))))
      (pss_one (ps_ret (pe_tupZ (pa_cons (pv 2) (pa_cons (pv 3) pa_nil)))))))))), ?_⟩
    generalize hw : TL.tl z = t at q
    have zl : z.length = t.length := by rw [TL.len_tl, hw]
    have d10 : TL.tl (Str.ofString "\n") = [10] := by decide +kernel
    have d32 : TL.tl (Str.ofString " ") = [32] := by decide +kernel
    have l10 : ((Str.ofString "\n").length == 0) = false := by decide +kernel
    have l32 : ((Str.ofString " ").length == 0) = false := by decide +kernel
    have hds : ([Str.ofString "width 1", Str.ofString "width 2", Str.ofString "width 3", Str.ofString "width 4"] : List Str).map TL.tl = [headL 1, headL 2, headL 3, headL 4] := by decide +kernel
    obtain ⟨r0, rest, hrs⟩ : ∃ r0 rest, rowsOf t = r0 :: rest := by
      cases e : rowsOf t with
      | nil => exact absurd e (spl_pos _ _ _ _)
      | cons a r => exact ⟨a, r, rfl⟩
    have rl : ∀ r ∈ r0 :: rest, r.length ≤ 40000 := fun r hr => by
      have := row_len (t := t) (r := r) (by rw [hrs]; exact hr)
      omega
    have nr : (r0 :: rest).length ≤ 80001 := by
      have := spl_many [10] t [] 0
      have e : TL.spl [10] 0 [] t = r0 :: rest := hrs
      rw [e] at this
      omega
    have pz : parse t = parseR (r0 :: rest) := by unfold parse; rw [hrs]
    rw [pz] at q
    have qN : parseR (r0 :: rest) = none → ∀ {σ : L2.St} {H' : Hp} {D : Ends}, D.rt = Q → Ex H H' → tRet (tC .non) D σ H' := fun hn {σ H' D} hD e => s_ret (K := K) (d := .none) ev_cN fun v H2 e2 hv => by
      rw [hn] at q
      rw [hD]
      exact q v H2 (ex_tr e e2) hv
    refine s_seq (s_asgF (K := K) (EvF.to (ef_split (ev_varS rfl) ev_cS l10 (by omega)) (by rw [split_rows d10, hw, hrs, strs_D])) fun p1 xs1 H1 hp1 e1 g1 g1' => ?_)
    have dR : Dd K H1 (.ref p1) (.list ((r0 :: rest).map fun l => PyData.str (txt l))) := .lst (SqL.of g1) g1'
    refine s_sq (s_if (b := decide (¬ (r0 ∈ [headL 1, headL 2, headL 3, headL 4] ∧ rest.length ≤ 6))) (EvB.to (et_or (et_test K (ev_op (ev_op (ev_var rfl dR) ev_cI (rd_ixL (n := 0) (d := .str (txt r0)) rfl rfl)) (ev_tup (ds := ([Str.ofString "width 1", Str.ofString "width 2", Str.ofString "width 3", Str.ofString "width 4"] : List Str).map .str) (ea_cons ev_cS (ea_cons ev_cS (ea_cons ev_cS (ea_cons ev_cS ea_nil)))) (by simp)) rd_notInT)) fun _ => et_test K (ev_op (EvD.to (ev_cb (ea_cons (ev_var rfl dR) ea_nil) rc_lenL') (by rw [List.length_map])) ev_cI rd_B0)) ?_) (fun c H2 e2 => qN ?_ rfl (ex_tr e1 e2)) fun c H2 e2 => s_next ?_)
    · rw [hds, tl_txt]
      have h1 : decide ((7 : Int) < (((r0 :: rest).length : Nat) : Int)) = !decide (rest.length ≤ 6) := by
        rw [← decide_not]
        exact decide_eq_decide.mpr (by rw [List.length_cons]; omega)
      rw [h1]
      simp only [decide_not, Bool.decide_and, Bool.not_and]
    · have c := of_decide_eq_true c
      cases e : parseR (r0 :: rest) with
      | none => rfl
      | some p =>
        obtain ⟨W, S⟩ := p
        obtain ⟨r0', rest', er, h1, h2, h3, h4, _⟩ := parseR_some e
        injection er with er1 er2
        subst er1 er2
        exact absurd ⟨head_in h1 h2 h3, h4⟩ c
    have c0 := Decidable.not_not.mp (of_decide_eq_false c)
    obtain ⟨W, hW1, hW4, rfl⟩ := head_out c0.1
    have hH : headOf (headL W) = some (W : Int) := headOf_head hW4
    have e12 := ex_tr e1 e2
    have dR2 := dR.up e2
    have lh := rl (headL W) (by simp)
    refine s_sq (s_asgI K (n := (W : Int)) (ev_cb (ea_cons (ev_slS (ev_op (ev_var rfl dR2) ev_cI (rd_ixL (n := 0) (d := .str (txt (headL W))) rfl rfl)) (eo_some K (i := ((6 : Nat) : Int)) ev_cI) eo_none (by rw [txt_len]; omega)) ea_nil) (rc_intS (head_int hW4 (by rw [tl_cut_from, tl_txt])) ?_)) fun H3 e3 => ?_)
    · rw [TL.len_tl, tl_cut_from, tl_txt, List.length_drop]
      have := headL_len hW4
      omega
    have e13 := ex_tr e12 e3
    refine s_sq (s_asgF (K := K) (ds := []) (ef_lst ea_nil (by simp)) fun l xs0 H6 hl6 e6 g6 g6' => ?_)
    cases g6'
    have e16 := ex_tr e13 e6
    have hl : H l = none := ex_back e13 hl6
    have dR6 := dR2.up (ex_tr e3 e6)
    refine s_sq (s_for1 (l := l) (n := rest.length) (B := B1 K 4 (rest.map fun r => PyData.str (txt r))) ?_ (fun H7 i σ' H' => ∃ rw st xs S, σ' = [some (.str z), some (.ref p1), some (.int (W : Int)), some (.ref l), rw, st, none] ∧ allOf (stepOf W) (rest.take i) = some S ∧ H' l = some (.lst xs) ∧ DdAll K H' xs (S.map ptD) ∧ Ex H H' ∧ Ex1 l H7 H')
      (fun H7 e7 => ⟨none, none, [], [], rfl, rfl, e7 l _ g6, .nil, ex_tr e16 e7, ex1_of ex_refl⟩) (fun H7 i σ' H' _ h => by obtain ⟨_, _, _, _, _, _, _, _, _, h⟩ := h; exact h) ?_ ?_)
    · have h := ei1_list (K := K) (j := 4) (σ := [some (V.str z), some (.ref p1), some (.int (W : Int)), some (.ref l), none, none, none]) g6 (ef_sl (tl := tPart (tC (.int 1))) (th := tNoPart) (lo := some ((1 : Nat) : Int)) (hi := none) (ev_var (i := 1) rfl dR6) (eo_some K ev_cI) eo_none) (by
        rw [cutD_drop]
        exact tupO_strs rest)
      rw [cutD_drop] at h
      have el : (List.drop 1 (List.map (fun l => PyData.str (txt l)) (headL W :: rest))).length = rest.length := by simp
      rw [el] at h
      exact h
    · rintro H7 i σ' σ'' H' H'' e7 hi ⟨rw', st', xs, S, rfl, hS, hxs, hd', eH, x1⟩ e8 ⟨u, d, hd, hu, rfl⟩
      obtain ⟨r, hr', rfl⟩ := map_got hd
      obtain rfl := dp_str hu
      have lr : r.length ≤ 40000 := rl r (List.mem_cons_of_mem _ (List.mem_of_getElem? hr'))
      have wm := wordsOf_many r
      have hSl := (allOf_some hS).1
      rw [List.length_take] at hSl
      refine s_seq (s_asgF (K := K) (ds := ((wordsOf r).map numOf).map optI) (EvF.to (ef_lc1 (fun i => optI (numOf ((wordsOf r).getD i []))) (n := (wordsOf r).length) (B := B1 K 6 ((wordsOf r).map fun w => PyData.str (txt w))) ?_ (by omega) (hwB1 (j := 6) (vs := [6]) fun _ => rfl) ?_) ?_) fun p3 xs3 H9 hp3 e9 g9 g9' => ?_)
      · have h := ei_list (K := K) (j := 6) (EvD.to (EvF.dd (ef_split (K := K) (σ := [some (V.str z), some (.ref p1), some (.int (W : Int)), some (.ref l), some (.str (txt r)), st', none]) (H := H'') (ta := tVar 4) (tb := tC (.str (Str.ofString " "))) (ev_varS rfl) ev_cS l32 (by rw [txt_len]; omega))) (by rw [split_words d32, strs_D, tl_txt]))
        rw [List.length_map] at h
        exact h
      · rintro j H' σ' e hj ⟨u, d, hd, hu, rfl⟩
        obtain ⟨wd, ew, rfl⟩ := map_got hd
        have eg : (wordsOf r).getD j [] = wd := by rw [List.getD_eq_getElem?_getD, ew]; rfl
        have lw : wd.length ≤ r.length := word_len (List.mem_of_getElem? ew)
        rw [eg]
        exact ⟨EvD.to (ev_call (ea_cons (ev_var rfl hu) ea_nil) (spD_go ⟨txt wd, rfl, by rw [txt_len]; omega, rfl⟩)) (by rw [tl_txt]), tupO_optI _⟩
      · rw [List.map_map]
        refine range_map_eq rfl fun j hj => ?_
        rw [List.getD_eq_getElem?_getD, List.getElem?_eq_getElem hj]
        rfl
      have dw : Dd K H9 (.ref p3) (.list (((wordsOf r).map numOf).map optI)) := .lst (SqL.of g9) g9'
      have e79 := ex_tr e8 e9
      refine s_sq (s_if (b := !decide ((wordsOf r).length = W) || ((wordsOf r).map numOf).contains none) (EvB.to (et_or (et_test K (ev_op (ev_cb (ea_cons (ev_var rfl dw) ea_nil) rc_lenL') (ev_varI rfl) (rd_ne rfl rfl))) fun _ => et_test K (ev_op ev_cN (ev_var rfl dw) rd_noneIn)) ?_) (fun c H10 e10 => qN ?_ rfl (ex_tr eH (ex_tr e79 e10))) fun c H10 e10 => s_next ?_)
      · rw [eqv_intD, List.length_map, List.length_map]
        have : decide ((((wordsOf r).length : Nat) : Int) = (W : Int)) = decide ((wordsOf r).length = W) := decide_eq_decide.mpr (by omega)
        rw [this]
      · refine parseR_bad hH hr' ?_
        rw [Int.toNat_natCast]
        unfold stepOf
        by_cases hl' : (wordsOf r).length = W
        · rw [if_pos hl']
          rw [decide_eq_true hl'] at c
          exact allOf_none_in (by simpa using c)
        · rw [if_neg hl']
      have c' : (wordsOf r).length = W ∧ ((wordsOf r).map numOf).contains none = false := by
        rw [Bool.or_eq_false_iff] at c
        exact ⟨by simpa using c.1, c.2⟩
      obtain ⟨ns, hns, hmap⟩ := allOf_all_in c'.2
      have hst : stepOf W r = some ns := by
        unfold stepOf
        rw [if_pos c'.1, hns]
      rw [hmap] at dw
      have eD : (ns.map some).map optI = ns.map PyData.int := by rw [List.map_map]; rfl
      rw [eD] at dw
      have dw10 := dw.up e10
      have e710 := ex_tr e79 e10
      refine s_app1 (e710 l _ hxs) (hd'.up e710) (tupOAll_map tupO_pt S) rfl (ev_cb (ea_cons (ev_var rfl dw10) ea_nil) rc_tupleL) (tupO_pt ns) (by rw [List.length_map]; omega) fun H11 ys x11 h11 hd11 => ?_
      have tk : rest.take (i + 1) = rest.take i ++ [r] := by
        rw [List.take_add_one, hr']
        rfl
      refine ⟨_, _, ys, S ++ [ns], rfl, ?_, h11, by rw [List.map_append]; exact hd11, ex_of1 (ex_tr eH e710) hl x11, ex1_tr x1 (ex1_tr (ex1_of e710) x11)⟩
      rw [tk]
      exact allOf_snoc hS hst
    · rintro H7 σ' H' e7 ⟨rw', st', xs, S, rfl, hS, hxs, hd', eH, x1⟩
      rw [List.take_length] at hS
      have hp := parseR_yes hH ⟨by omega, by omega, c0.2⟩ (by rw [Int.toNat_natCast]; exact hS)
      rw [Int.toNat_natCast] at hp
      rw [hp] at q
      exact s_nx (s_ret (K := K) (ev_tup (ea_cons (ev_varI rfl) (ea_cons (ev_var rfl (.lst (SqL.of hxs) hd')) ea_nil)) (by simp)) fun v H8 e8 hv => q v H8 (ex_tr eH e8) hv)
abbrev s__law_one_sign : Stmt := topS 28
theorem sc__law_one_sign : FnScope ["script", "text", "cell", "sign", "at", "due", "back"] ["script", "text"] (defScope s__law_one_sign) := ⟨rfl, rfl, rfl, by decide +kernel, rfl, by decide +kernel, by decide +kernel⟩
theorem ok__law_one_sign {f C : Addr} {fd : FuncData} (F : Fun K "_law_one_sign" "_law_one_sign" s__law_one_sign f fd) (T : Ctx P K mg base) (FC : FCls K C) (C__law_cell_at : Cal P w K mg base 41 "_law_cell_at" ["script", "k"] (spD K RCell)) (C__law_written : Cal P w K mg base 42 "_law_written" ["text"] (spD K RWrit)) (C__law_refused : Cal P w K mg base 44 "_law_refused" ["text"] (spRefT K)) (C_read : Cal P w K mg base 43 "read" ["text"] (spRead C K)) :
    FnOk P w K mg base CX0 45 f fd ["script", "text"] (spOneSign K) := by
  have sc := sc__law_one_sign
  have B := T.bl
  refine F.ok sc (fun vs H Q E h => ?_) (fun cdv A outer s H vs Q E hr h => ?_)
  · obtain ⟨x, ns, z, rfl, _⟩ := h
    rfl
  · obtain ⟨x, ns, z, rfl, hx, hn, hz, q⟩ := h
    refine ⟨_, (pss_cons (ps_set (i := 2) sc.nd rfl (.inl rfl) (pe_cal C__law_cell_at hr (by decide) (by rfl) (pa_cons (pv 0) (pa_cons pe_int pa_nil))))
      (pss_cons (ps_set (i := 3) sc.nd rfl (.inl rfl) (pe_ix (ixK K) pe_str (pe_op op_modN (pe_op op_fdivN (pv 2) pe_int) pe_int) (fun _ _ => rfl)))
      (pss_cons (ps_set (i := 4) sc.nd rfl (.inl rfl) (pe_op op_modN (pe_op op_fdivN (pv 2) pe_int) (pe_op (addK K) (pe_callB call_len_str (by rfl) B.len (by decide +kernel) (pa_cons (pv 1) pa_nil)) pe_int)))
      (Evl.pss_cut (ps_if (pt_cmpR (eqK K hr.units) (pe_op op_modN (pv 2) pe_int) pe_int (nomark _)) (pss_one (ps_set (i := 1) sc.nd rfl (.inl rfl) (pe_op (addK K) (pe_slice (slK K) (pv 1) po_none (po_some (pv 4))) (pe_slice (slK K) (pv 1) (po_some (pe_op (addK K) (pv 4) pe_int)) po_none)))) (pss_one (ps_if (pt_cmpR (eqK K hr.units) (pe_op op_modN (pv 2) pe_int) pe_int (nomark _)) (pss_one (ps_set (i := 1) sc.nd rfl (.inl rfl) (pe_op (addK K) (pe_op (addK K) (pe_slice (slK K) (pv 1) po_none (po_some (pv 4))) (pv 3)) (pe_slice (slK K) (pv 1) (po_some (pv 4)) po_none)))) (pss_one (ps_set (i := 1) sc.nd rfl (.inl rfl) (pe_op (addK K) (pe_op (addK K) (pe_slice (slK K) (pv 1) po_none (po_some (pv 4))) (pv 3)) (pe_slice (slK K) (pv 1) (po_some (pe_op (addK K) (pv 4) pe_int)) po_none)))))))
      (pss_cons (ps_set (i := 5) sc.nd rfl (.inl rfl) (pe_cal C__law_written hr (by decide) (by rfl) (pa_cons (pv 1) pa_nil)))
      (pss_cons (ps_if (pt_cmpR op_isN (pv 5) pe_non (nomark _)) (pss_one (ps_ret (pe_cal C__law_refused hr (by decide) (by rfl) (pa_cons (pv 1) pa_nil)))) pss_nil)
      (pss_cons (ps_set (i := 6) sc.nd rfl (.inl rfl) (pe_cal C_read hr (by decide) (by rfl) (pa_cons (pv 1) pa_nil)))
      (pss_one (ps_ret (pe_cmpR (eqK K hr.units) (pe_tupZ (pa_cons (fldK K (pv 6)) (pa_cons (fldK K (pv 6)) pa_nil))) (pv 5) (nomark _))))))))))), ?_⟩
    have mo : ∀ {k : Int} {a : Int}, k ≠ 0 → RD K (rI (fun _ j => j ≠ 0) fun i j => .int (i.fmod j)) (.int a) (.int k) (.int (a.fmod k)) := fun h => rd_I h
    have dv : ∀ {k : Int} {a : Int}, CDivN a k → RD K (rI CDivN fun i j => .int (i.fdiv j)) (.int a) (.int k) (.int (a.fdiv k)) := fun h => rd_I h
    have hcell : ∀ (k : Nat) (σ : L2.St) (H' : Hp), Ex H H' → σ[0]? = some (some x) → EvD K (tCall (spD K RCell) [] E0 (tCons (tVar 0) (tCons (tC (.int (k : Int))) tNil))) σ H' (.int (vf ns k)) := fun k σ H' e h0 =>
      ev_call (ea_cons (ev_var h0 (hx.dd.up e)) (ea_cons ev_cI ea_nil)) (spD_go ⟨ns, k, rfl, rfl, by omega⟩)
    refine s_seq (s_asgI K (n := vf ns 40) (hcell 40 _ _ ex_refl rfl) fun H1 e1 => ?_)
    generalize vf ns 40 = cell
    have dsg : TL.tl (Str.ofString "0123456789 -+\n\twix") = [48, 49, 50, 51, 52, 53, 54, 55, 56, 57, 32, 45, 43, 10, 9, 119, 105, 120] := by decide +kernel
    have hm := fmod_pos (a := cell.fdiv 3) (b := 18) (by decide)
    obtain ⟨k, ek, hk⟩ : ∃ k : Nat, (cell.fdiv 3).fmod 18 = (k : Int) ∧ k < 18 := ⟨((cell.fdiv 3).fmod 18).toNat, by omega, by omega⟩
    obtain ⟨c, hc⟩ : ∃ c, (TL.tl (Str.ofString "0123456789 -+\n\twix"))[k]? = some c := ⟨_, List.getElem?_eq_getElem (by rw [dsg]; exact hk)⟩
    refine s_sq (s_asgS K (n := ⟨#[c]⟩) (ev_op ev_cS (ev_op (ev_op (ev_varI rfl) ev_cI (dv ⟨by decide, by decide⟩)) ev_cI (mo (by decide))) (rd_ixS ek hc (by rw [TL.len_tl, dsg]; decide))) fun H2 e2 => ?_)
    have hm2 := fmod_pos (a := cell.fdiv 54) (b := ((z.length : Nat) : Int) + 1) (by omega)
    obtain ⟨at_, ea, ha⟩ : ∃ m : Nat, (cell.fdiv 54).fmod (((z.length : Nat) : Int) + 1) = (m : Int) ∧ m ≤ z.length := ⟨((cell.fdiv 54).fmod (((z.length : Nat) : Int) + 1)).toNat, by omega, by omega⟩
    refine s_sq (s_asgI K (n := (at_ : Int)) (EvD.to (ev_op (ev_op (ev_varI rfl) ev_cI (dv ⟨by decide, by decide⟩)) (ev_op (ev_cb (ea_cons (ev_varS rfl) ea_nil) (rc_lenS (by omega))) ev_cI rd_addI) (mo (by omega))) (by rw [ea])) fun H3 e3 => ?_)
    have e13 := ex_tr e1 (ex_tr e2 e3)
    have lc : (⟨#[c]⟩ : Str).length = 1 := by rw [TL.len_tl]; rfl
    have cl := fun lo hi => cutS_length z lo hi
    refine ⟨fun σ' H' => ∃ z' : Str, σ' = [some x, some (.str z'), some (.int cell), some (.str ⟨#[c]⟩), some (.int (at_ : Int)), none, none] ∧ z'.length ≤ 5000 ∧ Ex H H', ?_, ?_⟩
    · refine s_if (et_test K (ev_op (ev_op (ev_varI rfl) ev_cI (mo (by decide))) ev_cI (rd_eq rfl rfl))) (fun _ H4 e4 => ?_) (fun _ H4 e4 => ?_)
      · refine s_asgS K (ev_op (ev_slS (ev_varS rfl) eo_none (eo_some K (ev_varI rfl)) (by omega)) (ev_slS (ev_varS rfl) (eo_some K (ev_op (ev_varI rfl) ev_cI rd_addI)) eo_none (by omega)) (rd_addS ?_)) fun H5 e5 => ⟨_, rfl, ?_, ex_tr e13 (ex_tr e4 e5)⟩
        · have a1 := cl none (some (at_ : Int))
          have a2 := cl (some ((at_ : Int) + 1)) none
          omega
        · have a1 := cl none (some (at_ : Int))
          have a2 := cl (some ((at_ : Int) + 1)) none
          rw [cat_len]
          omega
      · refine s_if (et_test K (ev_op (ev_op (ev_varI rfl) ev_cI (mo (by decide))) ev_cI (rd_eq rfl rfl))) (fun _ H5 e5 => ?_) (fun _ H5 e5 => ?_)
        · refine s_asgS K (ev_op (ev_op (ev_slS (ev_varS rfl) eo_none (eo_some K (ev_varI rfl)) (by omega)) (ev_varS rfl) (rd_addS ?_)) (ev_slS (ev_varS rfl) (eo_some K (ev_varI rfl)) eo_none (by omega)) (rd_addS ?_)) fun H6 e6 => ⟨_, rfl, ?_, ex_tr e13 (ex_tr e4 (ex_tr e5 e6))⟩
          · have a1 := cl none (some (at_ : Int))
            omega
          · have a1 := cl none (some (at_ : Int))
            have a2 := cl (some (at_ : Int)) none
            rw [cat_len]
            omega
          · have a1 := cl none (some (at_ : Int))
            have a2 := cl (some (at_ : Int)) none
            rw [cat_len, cat_len]
            omega
        · refine s_asgS K (ev_op (ev_op (ev_slS (ev_varS rfl) eo_none (eo_some K (ev_varI rfl)) (by omega)) (ev_varS rfl) (rd_addS ?_)) (ev_slS (ev_varS rfl) (eo_some K (ev_op (ev_varI rfl) ev_cI rd_addI)) eo_none (by omega)) (rd_addS ?_)) fun H6 e6 => ⟨_, rfl, ?_, ex_tr e13 (ex_tr e4 (ex_tr e5 e6))⟩
          · have a1 := cl none (some (at_ : Int))
            omega
          · have a1 := cl none (some (at_ : Int))
            have a2 := cl (some ((at_ : Int) + 1)) none
            rw [cat_len]
            omega
          · have a1 := cl none (some (at_ : Int))
            have a2 := cl (some ((at_ : Int) + 1)) none
            rw [cat_len, cat_len]
            omega
    rintro σ4 H4 ⟨z', rfl, hz', e4⟩
    have wr : EvD K (tCall (spD K RWrit) [] E0 (tCons (tVar 1) tNil)) [some x, some (.str z'), some (.int cell), some (.str ⟨#[c]⟩), some (.int (at_ : Int)), none, none] H4 (writD (parse (TL.tl z'))) := ev_call (ea_cons (ev_varS rfl) ea_nil) (spD_go ⟨z', rfl, by omega, rfl⟩)
    cases hp : parse (TL.tl z') with
    | none =>
      rw [hp] at wr
      refine s_seq (s_asgN K wr fun H5 e5 => ?_)
      refine s_sq (s_if (b := true) (et_test K (ev_isN1 (ev_varN rfl))) (fun _ H6 e6 => ?_) (fun z => by cases z))
      exact s_ret (K := K) (ev_refT (ev_varS rfl) (by omega) hp) fun v H7 e7 hv => by
        obtain rfl := dp_bl hv
        exact q H7 (ex_tr e4 (ex_tr e5 (ex_tr e6 e7)))
    | some p =>
      obtain ⟨W, S⟩ := p
      rw [hp] at wr
      refine s_seq (s_asgD wr fun v5 H5 e5 hv5 => ?_)
      refine s_sq (s_if (b := false) (et_test K (ev_isN0 (ev_var rfl hv5) (by intro z; cases z))) (fun z => by cases z) fun _ H6 e6 => s_next ?_)
      refine s_sq (s_asgM (em_read (C := C) (ev_varS rfl) (by omega) hp) fun a H7 ha' e7 hF => ?_)
      exact s_nx (s_ret (K := K) (d := .bool true) (EvD.to (ev_op (ev_tup (ea_cons (ev_width FC hF rfl) (ea_cons (el_steps FC hF rfl).dd ea_nil)) (by simp)) (ev_var (i := 5) rfl (hv5.up (ex_tr e6 e7))) (rd_eq (shaped_writ _ _) (shaped_writ _ _))) (congrArg PyData.bool (eqv_writ (W : Int) S))) fun v H8 e8 hv => by
        obtain rfl := dp_bl hv
        exact q H8 (ex_tr e4 (ex_tr e5 (ex_tr e6 (ex_tr e7 e8)))))
abbrev s_law : Stmt := topS 29
theorem sc_law : FnScope ["script", "width", "steps", "text", "bad", "back"] ["script"] (defScope s_law) := ⟨rfl, rfl, rfl, by decide +kernel, rfl, by decide +kernel, by decide +kernel⟩
theorem ok_law {f C : Addr} {fd : FuncData} (F : Fun K "law" "law" s_law f fd) (T : Ctx P K mg base) (FC : FCls K C) (C__law_cell_at : Cal P w K mg base 41 "_law_cell_at" ["script", "k"] (spD K RCell)) (C__law_steps : Cal P w K mg base 43 "_law_steps" ["script", "spot", "width", "most", "great"] (spStepsG K)) (C__law_text : Cal P w K mg base 41 "_law_text" ["width", "steps"] (spD K RText)) (C__law_bad_text : Cal P w K mg base 42 "_law_bad_text" ["text", "way", "cell"] (spBadT K)) (C__law_refused : Cal P w K mg base 44 "_law_refused" ["text"] (spRefT K)) (C_read : Cal P w K mg base 43 "read" ["text"] (spRead C K)) (C__law_one_sign : Cal P w K mg base 45 "_law_one_sign" ["script", "text"] (spOneSign K)) :
    FnOk P w K mg base CX0 46 f fd ["script"] (spLaw K) := by
  have sc := sc_law
  have B := T.bl
  refine F.ok sc (fun vs H Q E h => ?_) (fun cdv A outer s H vs Q E hr h => ?_)
  · obtain ⟨a, ns, rfl, _⟩ := h
    rfl
  · obtain ⟨a, ns, rfl, hx, hn, q⟩ := h
    refine ⟨_, (pss_cons (ps_set (i := 1) sc.nd rfl (.inl rfl) (pe_op (addK K) pe_int (pe_op op_modN (pe_cal C__law_cell_at hr (by decide) (by rfl) (pa_cons (pv 0) (pa_cons pe_int pa_nil))) pe_int)))
      (pss_cons (ps_set (i := 2) sc.nd rfl (.inl rfl) (pe_op (addK K) (pe_lst (pa_cons (pe_slice (slK K) (pe_tupZ (pa_cons pe_int (pa_cons (pe_un un_neg pe_int) (pa_cons pe_int (pa_cons pe_int pa_nil))))) po_none (po_some (pv 1))) pa_nil)) (pe_cal C__law_steps hr (by decide) (by rfl) (pa_cons (pv 0) (pa_cons (pe_lst (pa_cons pe_int pa_nil)) (pa_cons (pv 1) (pa_cons pe_int (pa_cons pe_bl pa_nil))))))))
      (pss_cons (ps_set (i := 3) sc.nd rfl (.inl rfl) (pe_cal C__law_text hr (by decide) (by rfl) (pa_cons (pv 1) (pa_cons (pv 2) pa_nil))))
      (pss_cons (ps_set (i := 4) sc.nd rfl (.inl rfl) (pe_cal C__law_bad_text hr (by decide) (by rfl) (pa_cons (pv 3) (pa_cons (pe_op op_modN (pe_cal C__law_cell_at hr (by decide) (by rfl) (pa_cons (pv 0) (pa_cons pe_int pa_nil))) pe_int) (pa_cons (pe_op op_modN (pe_cal C__law_cell_at hr (by decide) (by rfl) (pa_cons (pv 0) (pa_cons pe_int pa_nil))) (pe_op op_pow pe_int pe_int)) pa_nil)))))
      (pss_cons (ps_if (pt_not (pt_val (pe_cal C__law_refused hr (by decide) (by rfl) (pa_cons (pv 4) pa_nil)))) (pss_one (ps_ret pe_bl)) pss_nil)
      (pss_cons (ps_set (i := 5) sc.nd rfl (.inl rfl) (pe_cal C_read hr (by decide) (by rfl) (pa_cons (pv 3) pa_nil)))
      (pss_one (ps_ret (pe_and (pe_cmpR (eqK K hr.units) (fldK K (pv 5)) (pv 1) (nomark _)) (pe_and (pe_cmpR (eqK K hr.units) (fldK K (pv 5)) (pv 2) (nomark _)) (pe_one (pe_cal C__law_one_sign hr (by decide) (by rfl) (pa_cons (pv 0) (pa_cons (pv 3) pa_nil)))))))))))))), ?_⟩
    have mo : ∀ {k : Int} {a : Int}, k ≠ 0 → RD K (rI (fun _ j => j ≠ 0) fun i j => .int (i.fmod j)) (.int a) (.int k) (.int (a.fmod k)) := fun h => rd_I h
    have hcell : ∀ (k : Nat) (σ : L2.St) (H' : Hp), Ex H H' → σ[0]? = some (some (.ref a)) → EvD K (tCall (spD K RCell) [] E0 (tCons (tVar 0) (tCons (tC (.int (k : Int))) tNil))) σ H' (.int (vf ns k)) := fun k σ H' e h0 =>
      ev_call (ea_cons (ev_var h0 (hx.dd.up e)) (ea_cons ev_cI ea_nil)) (spD_go ⟨ns, k, rfl, rfl, by omega⟩)
    generalize hW : (1 + (vf ns 0).fmod 4).toNat = W
    have hf := fmod_pos (a := vf ns 0) (b := (4 : Int)) (by omega)
    have eW : 1 + (vf ns 0).fmod 4 = (W : Int) := by omega
    have hW1 : 1 ≤ W := by omega
    have hW4 : W ≤ 4 := by omega
    refine s_seq (s_asgI K (n := (W : Int)) (EvD.to (ev_op ev_cI (ev_op (hcell 0 _ _ ex_refl rfl) ev_cI (rd_I (by decide))) rd_addI) (by rw [eW])) fun H1 e1 => ?_)
    refine s_sq (s_asgR (P := fun v H2 => ∃ l xs S, v = .ref l ∧ Ex H1 H2 ∧ H2 l = some (.lst xs) ∧ DdAll K H2 xs (S.map ptD) ∧ TOk W S ∧ 1 ≤ S.length) (fun Q' q' => ?_) ?_)
    · have tup : EvD K (tSl (rSlAny K) (tTupZ (tCons (tC (.int 1)) (tCons (tUn (rU fun i => .int (-i)) (tC (.int 2))) (tCons (tC (.int 0)) (tCons (tC (.int 30)) tNil))))) tNoPart (tPart (tVar 1))) [some (V.ref a), some (.int (W : Int)), none, none, none, none] H1 (ptD (([1, -2, 0, 30] : List Int).take W)) :=
        EvD.to (ev_slT (ev_tup (ea_cons ev_cI (ea_cons (ev_un ev_cI ru_neg) (ea_cons ev_cI (ea_cons ev_cI ea_nil)))) (by simp)) eo_none (eo_some K (ev_varI rfl))) (by
          rw [cutD_take]
          unfold ptD
          rw [List.map_take]
          rfl)
      refine (ef_lst (K := K) (ea_cons tup ea_nil) (by simp)) H1 ex_refl _ fun p1 xs1 H2 hp1 e2 g2 g2' => ?_
      refine er_stepsGZ (W := W) (most := 4) (p := 3) (great := true) rfl (hx.up (ex_tr e1 e2)) (by omega) rfl (ea_cons (ev_varI rfl) (ea_cons ev_cI (ea_cons ev_cB ea_nil))) (by omega) (by decide) _ ?_
      rintro v H3 ⟨l, xs, S, rfl, e3, hl, h3, hd, hS⟩
      have ok := hS.tok hW1 hW4 (by decide)
      have n4 := hS.s.n
      refine .inr (.inl ⟨p1, l, xs1, xs, rfl, rfl, e3 p1 _ g2, h3, Evl.sz_of (by rw [g2'.len, hd.len, List.length_map]; simp; omega), fun z hz => ?_⟩)
      refine q' _ _ ⟨z, _, ([1, -2, 0, 30] : List Int).take W :: S, rfl, ex_tr e2 (ex_tr e3 (ex_new hz)), upd_same, (((g2'.up e3).app hd).up (ex_new hz)), ?_, by simp⟩
      refine ⟨hW1, hW4, by simp; omega, fun p hp => ?_, fun p hp x hx => ?_⟩
      · rcases List.mem_cons.mp hp with rfl | hp
        · rw [List.length_take]
          simp
          omega
        · exact ok.len p hp
      · rcases List.mem_cons.mp hp with rfl | hp
        · have := List.mem_of_mem_take hx
          simp at this
          omega
        · exact ok.bd p hp x hx
    rintro v H2 ⟨l, xs, S, rfl, e2, h2, hd, ok, hS1⟩
    have e12 := ex_tr e1 e2
    have dS : Dd K H2 (.ref l) (.list (S.map ptD)) := .lst (SqL.of h2) hd
    have lt : (txt (textL W S)).length ≤ 1000 := by rw [txt_len]; exact ok.text
    refine s_sq (s_asgS K (n := txt (textL W S)) (ev_call (ea_cons (ev_varI rfl) (ea_cons (ev_var rfl dS) ea_nil)) (spD_go ⟨W, S, rfl, ok, rfl⟩)) fun H3 e3 => ?_)
    have e13 := ex_tr e12 e3
    have m1 := fmod_pos (a := vf ns 1) (b := (50 : Int)) (by omega)
    have ten : (10 : Int) ^ (6 : Int).toNat = 1000000 := by decide
    have m2 := fmod_pos (a := vf ns 2) (b := (10 : Int) ^ (6 : Int).toNat) (by omega)
    refine s_sq (s_asgR (er_badT (W := W) (S := S) (ev_varS rfl) (ev_op (hcell 1 _ _ e13 rfl) ev_cI (mo (by decide))) (ev_op (hcell 2 _ _ e13 rfl) (ev_op ev_cI ev_cI (rd_I ⟨by decide, by decide, by decide⟩)) (mo (by decide))) ok hS1 (by omega) (by omega) (by omega) (by omega)) ?_)
    rintro v H4 ⟨b, rfl, e4, hb, hbl⟩
    refine s_sq (s_if (b := false) (EvB.to (et_not (et_test K (ev_refT (ev_varS rfl) (by rw [txt_len]; exact hbl) (by rw [tl_txt]; exact hb)))) rfl) (fun z => by cases z) fun _ H5 e5 => s_next ?_)
    have e15 := ex_tr e13 (ex_tr e4 e5)
    refine s_sq (s_asgM (em_read (C := C) (ev_varS rfl) (by omega) (by rw [tl_txt]; exact ok.parse)) fun o H6 ho e6 hF => ?_)
    have e16 := ex_tr e15 e6
    have dS6 := dS.up (ex_tr e3 (ex_tr e4 (ex_tr e5 e6)))
    refine s_nx (s_ret (K := K) (d := .bool true) (EvD.to (ev_andV (ev_op (ev_width FC hF rfl) (ev_varI rfl) (rd_eq rfl rfl)) fun _ => ev_andV (ev_op (el_steps FC hF rfl).dd (ev_var rfl dS6) (rd_eq (shaped_pts _) (shaped_pts _))) fun _ => ev_oneS rfl (hx.up e16) (by omega) (ev_varS rfl) (by omega)) ?_) fun v H7 e7 hv => ?_)
    · rw [eqv_intD, eqv_pts]
      simp
    · obtain rfl := dp_bl hv
      exact q H7
end
theorem all_mk {l : PySem.W.OpenLaw} {w : World} {K : PySem.W.Frag} {h : Heap} {mg : Str → Option Value} {fa C D_BadStep D_BadWidth D_FieldError D_NoField D_TooMany D_Unlike f_Field___init__ f_number_of f_read f__law_cell_at f__law_next f__law_number f__law_steps f__law_text f__law_which f__law_due f__law_bad_word f__law_bad_text f__law_refused f__law_a_number f__law_written f__law_one_sign f_law : Addr} (X : K.In h) (G : h.Ns mainGlobals mg) (hfa : mg "law" = some (.ref fa)) (ht : l.prog.given.tree = none)
    {od_Field___init__ an_Field___init__ od_number_of an_number_of od_read an_read od__law_cell_at an__law_cell_at od__law_next an__law_next od__law_number an__law_number od__law_steps an__law_steps od__law_text an__law_text od__law_which an__law_which od__law_due an__law_due od__law_bad_word an__law_bad_word od__law_bad_text an__law_bad_text od__law_refused an__law_refused od__law_a_number an__law_a_number od__law_written an__law_written od__law_one_sign an__law_one_sign od_law an_law : Option Addr} {sl_Field___init__ sl_number_of sl_read sl__law_cell_at sl__law_next sl__law_number sl__law_steps sl__law_text sl__law_which sl__law_due sl__law_bad_word sl__law_bad_text sl__law_refused sl__law_a_number sl__law_written sl__law_one_sign sl_law : Array (Option Value)} {oc_Field___init__ kV_Field___init__ dc_Field___init__ pm_Field___init__ cd_Field___init__ ct_Field___init__ oc_number_of kV_number_of dc_number_of pm_number_of cd_number_of ct_number_of oc_read kV_read dc_read pm_read cd_read ct_read oc__law_cell_at kV__law_cell_at dc__law_cell_at pm__law_cell_at cd__law_cell_at ct__law_cell_at oc__law_next kV__law_next dc__law_next pm__law_next cd__law_next ct__law_next oc__law_number kV__law_number dc__law_number pm__law_number cd__law_number ct__law_number oc__law_steps kV__law_steps dc__law_steps pm__law_steps cd__law_steps ct__law_steps oc__law_text kV__law_text dc__law_text pm__law_text cd__law_text ct__law_text oc__law_which kV__law_which dc__law_which pm__law_which cd__law_which ct__law_which oc__law_due kV__law_due dc__law_due pm__law_due cd__law_due ct__law_due oc__law_bad_word kV__law_bad_word dc__law_bad_word pm__law_bad_word cd__law_bad_word ct__law_bad_word oc__law_bad_text kV__law_bad_text dc__law_bad_text pm__law_bad_text cd__law_bad_text ct__law_bad_text oc__law_refused kV__law_refused dc__law_refused pm__law_refused cd__law_refused ct__law_refused oc__law_a_number kV__law_a_number dc__law_a_number pm__law_a_number cd__law_a_number ct__law_a_number oc__law_written kV__law_written dc__law_written pm__law_written cd__law_written ct__law_written oc__law_one_sign kV__law_one_sign dc__law_one_sign pm__law_one_sign cd__law_one_sign ct__law_one_sign oc_law kV_law dc_law pm_law cd_law ct_law : Value} {tc_MOST_NUMBER tc_MOST_STEPS tc_WIDEST : Tok}
    (aC : PySem.W.nsIn K mainGlobals "Field" = some (some (.ref C)))
    (a_Field___init__ : PySem.W.findIn K (.ref C) "__init__" = some (some (.ref f_Field___init__)))
    (i_Field___init__ : PySem.W.isFn K (.ref f_Field___init__) = true)
    (l_Field___init__ : K.lookup f_Field___init__ = some ⟨oc_Field___init__, od_Field___init__, .func (PySem.W.fnOf "__init__" "Field.__init__" (defArgs s_Field___init__) (defBody s_Field___init__) (defScope s_Field___init__) .none kV_Field___init__ dc_Field___init__ pm_Field___init__ an_Field___init__ cd_Field___init__ ct_Field___init__), sl_Field___init__⟩)
    (c_Field___init__ : PySem.W.codeIn K cd_Field___init__ "Field.__init__" = true)
    (k_Field___init__ : PySem.W.keepIn K (.ref f_Field___init__) = true)
    (a_number_of : PySem.W.nsIn K mainGlobals "number_of" = some (some (.ref f_number_of)))
    (l_number_of : K.lookup f_number_of = some ⟨oc_number_of, od_number_of, .func (PySem.W.fnOf "number_of" "number_of" (defArgs s_number_of) (defBody s_number_of) (defScope s_number_of) .none kV_number_of dc_number_of pm_number_of an_number_of cd_number_of ct_number_of), sl_number_of⟩)
    (c_number_of : PySem.W.codeIn K cd_number_of "number_of" = true)
    (k_number_of : PySem.W.keepIn K (.ref f_number_of) = true)
    (a_read : PySem.W.nsIn K mainGlobals "read" = some (some (.ref f_read)))
    (l_read : K.lookup f_read = some ⟨oc_read, od_read, .func (PySem.W.fnOf "read" "read" (defArgs s_read) (defBody s_read) (defScope s_read) .none kV_read dc_read pm_read an_read cd_read ct_read), sl_read⟩)
    (c_read : PySem.W.codeIn K cd_read "read" = true)
    (k_read : PySem.W.keepIn K (.ref f_read) = true)
    (a__law_cell_at : PySem.W.nsIn K mainGlobals "_law_cell_at" = some (some (.ref f__law_cell_at)))
    (l__law_cell_at : K.lookup f__law_cell_at = some ⟨oc__law_cell_at, od__law_cell_at, .func (PySem.W.fnOf "_law_cell_at" "_law_cell_at" (defArgs s__law_cell_at) (defBody s__law_cell_at) (defScope s__law_cell_at) .none kV__law_cell_at dc__law_cell_at pm__law_cell_at an__law_cell_at cd__law_cell_at ct__law_cell_at), sl__law_cell_at⟩)
    (c__law_cell_at : PySem.W.codeIn K cd__law_cell_at "_law_cell_at" = true)
    (k__law_cell_at : PySem.W.keepIn K (.ref f__law_cell_at) = true)
    (a__law_next : PySem.W.nsIn K mainGlobals "_law_next" = some (some (.ref f__law_next)))
    (l__law_next : K.lookup f__law_next = some ⟨oc__law_next, od__law_next, .func (PySem.W.fnOf "_law_next" "_law_next" (defArgs s__law_next) (defBody s__law_next) (defScope s__law_next) .none kV__law_next dc__law_next pm__law_next an__law_next cd__law_next ct__law_next), sl__law_next⟩)
    (c__law_next : PySem.W.codeIn K cd__law_next "_law_next" = true)
    (k__law_next : PySem.W.keepIn K (.ref f__law_next) = true)
    (a__law_number : PySem.W.nsIn K mainGlobals "_law_number" = some (some (.ref f__law_number)))
    (l__law_number : K.lookup f__law_number = some ⟨oc__law_number, od__law_number, .func (PySem.W.fnOf "_law_number" "_law_number" (defArgs s__law_number) (defBody s__law_number) (defScope s__law_number) .none kV__law_number dc__law_number pm__law_number an__law_number cd__law_number ct__law_number), sl__law_number⟩)
    (c__law_number : PySem.W.codeIn K cd__law_number "_law_number" = true)
    (k__law_number : PySem.W.keepIn K (.ref f__law_number) = true)
    (a__law_steps : PySem.W.nsIn K mainGlobals "_law_steps" = some (some (.ref f__law_steps)))
    (l__law_steps : K.lookup f__law_steps = some ⟨oc__law_steps, od__law_steps, .func (PySem.W.fnOf "_law_steps" "_law_steps" (defArgs s__law_steps) (defBody s__law_steps) (defScope s__law_steps) .none kV__law_steps dc__law_steps pm__law_steps an__law_steps cd__law_steps ct__law_steps), sl__law_steps⟩)
    (c__law_steps : PySem.W.codeIn K cd__law_steps "_law_steps" = true)
    (k__law_steps : PySem.W.keepIn K (.ref f__law_steps) = true)
    (a__law_text : PySem.W.nsIn K mainGlobals "_law_text" = some (some (.ref f__law_text)))
    (l__law_text : K.lookup f__law_text = some ⟨oc__law_text, od__law_text, .func (PySem.W.fnOf "_law_text" "_law_text" (defArgs s__law_text) (defBody s__law_text) (defScope s__law_text) .none kV__law_text dc__law_text pm__law_text an__law_text cd__law_text ct__law_text), sl__law_text⟩)
    (c__law_text : PySem.W.codeIn K cd__law_text "_law_text" = true)
    (k__law_text : PySem.W.keepIn K (.ref f__law_text) = true)
    (a__law_which : PySem.W.nsIn K mainGlobals "_law_which" = some (some (.ref f__law_which)))
    (l__law_which : K.lookup f__law_which = some ⟨oc__law_which, od__law_which, .func (PySem.W.fnOf "_law_which" "_law_which" (defArgs s__law_which) (defBody s__law_which) (defScope s__law_which) .none kV__law_which dc__law_which pm__law_which an__law_which cd__law_which ct__law_which), sl__law_which⟩)
    (c__law_which : PySem.W.codeIn K cd__law_which "_law_which" = true)
    (k__law_which : PySem.W.keepIn K (.ref f__law_which) = true)
    (a__law_due : PySem.W.nsIn K mainGlobals "_law_due" = some (some (.ref f__law_due)))
    (l__law_due : K.lookup f__law_due = some ⟨oc__law_due, od__law_due, .func (PySem.W.fnOf "_law_due" "_law_due" (defArgs s__law_due) (defBody s__law_due) (defScope s__law_due) .none kV__law_due dc__law_due pm__law_due an__law_due cd__law_due ct__law_due), sl__law_due⟩)
    (c__law_due : PySem.W.codeIn K cd__law_due "_law_due" = true)
    (k__law_due : PySem.W.keepIn K (.ref f__law_due) = true)
    (a__law_bad_word : PySem.W.nsIn K mainGlobals "_law_bad_word" = some (some (.ref f__law_bad_word)))
    (l__law_bad_word : K.lookup f__law_bad_word = some ⟨oc__law_bad_word, od__law_bad_word, .func (PySem.W.fnOf "_law_bad_word" "_law_bad_word" (defArgs s__law_bad_word) (defBody s__law_bad_word) (defScope s__law_bad_word) .none kV__law_bad_word dc__law_bad_word pm__law_bad_word an__law_bad_word cd__law_bad_word ct__law_bad_word), sl__law_bad_word⟩)
    (c__law_bad_word : PySem.W.codeIn K cd__law_bad_word "_law_bad_word" = true)
    (k__law_bad_word : PySem.W.keepIn K (.ref f__law_bad_word) = true)
    (a__law_bad_text : PySem.W.nsIn K mainGlobals "_law_bad_text" = some (some (.ref f__law_bad_text)))
    (l__law_bad_text : K.lookup f__law_bad_text = some ⟨oc__law_bad_text, od__law_bad_text, .func (PySem.W.fnOf "_law_bad_text" "_law_bad_text" (defArgs s__law_bad_text) (defBody s__law_bad_text) (defScope s__law_bad_text) .none kV__law_bad_text dc__law_bad_text pm__law_bad_text an__law_bad_text cd__law_bad_text ct__law_bad_text), sl__law_bad_text⟩)
    (c__law_bad_text : PySem.W.codeIn K cd__law_bad_text "_law_bad_text" = true)
    (k__law_bad_text : PySem.W.keepIn K (.ref f__law_bad_text) = true)
    (a__law_refused : PySem.W.nsIn K mainGlobals "_law_refused" = some (some (.ref f__law_refused)))
    (l__law_refused : K.lookup f__law_refused = some ⟨oc__law_refused, od__law_refused, .func (PySem.W.fnOf "_law_refused" "_law_refused" (defArgs s__law_refused) (defBody s__law_refused) (defScope s__law_refused) .none kV__law_refused dc__law_refused pm__law_refused an__law_refused cd__law_refused ct__law_refused), sl__law_refused⟩)
    (c__law_refused : PySem.W.codeIn K cd__law_refused "_law_refused" = true)
    (k__law_refused : PySem.W.keepIn K (.ref f__law_refused) = true)
    (a__law_a_number : PySem.W.nsIn K mainGlobals "_law_a_number" = some (some (.ref f__law_a_number)))
    (l__law_a_number : K.lookup f__law_a_number = some ⟨oc__law_a_number, od__law_a_number, .func (PySem.W.fnOf "_law_a_number" "_law_a_number" (defArgs s__law_a_number) (defBody s__law_a_number) (defScope s__law_a_number) .none kV__law_a_number dc__law_a_number pm__law_a_number an__law_a_number cd__law_a_number ct__law_a_number), sl__law_a_number⟩)
    (c__law_a_number : PySem.W.codeIn K cd__law_a_number "_law_a_number" = true)
    (k__law_a_number : PySem.W.keepIn K (.ref f__law_a_number) = true)
    (a__law_written : PySem.W.nsIn K mainGlobals "_law_written" = some (some (.ref f__law_written)))
    (l__law_written : K.lookup f__law_written = some ⟨oc__law_written, od__law_written, .func (PySem.W.fnOf "_law_written" "_law_written" (defArgs s__law_written) (defBody s__law_written) (defScope s__law_written) .none kV__law_written dc__law_written pm__law_written an__law_written cd__law_written ct__law_written), sl__law_written⟩)
    (c__law_written : PySem.W.codeIn K cd__law_written "_law_written" = true)
    (k__law_written : PySem.W.keepIn K (.ref f__law_written) = true)
    (a__law_one_sign : PySem.W.nsIn K mainGlobals "_law_one_sign" = some (some (.ref f__law_one_sign)))
    (l__law_one_sign : K.lookup f__law_one_sign = some ⟨oc__law_one_sign, od__law_one_sign, .func (PySem.W.fnOf "_law_one_sign" "_law_one_sign" (defArgs s__law_one_sign) (defBody s__law_one_sign) (defScope s__law_one_sign) .none kV__law_one_sign dc__law_one_sign pm__law_one_sign an__law_one_sign cd__law_one_sign ct__law_one_sign), sl__law_one_sign⟩)
    (c__law_one_sign : PySem.W.codeIn K cd__law_one_sign "_law_one_sign" = true)
    (k__law_one_sign : PySem.W.keepIn K (.ref f__law_one_sign) = true)
    (a_law : PySem.W.nsIn K mainGlobals "law" = some (some (.ref f_law)))
    (l_law : K.lookup f_law = some ⟨oc_law, od_law, .func (PySem.W.fnOf "law" "law" (defArgs s_law) (defBody s_law) (defScope s_law) .none kV_law dc_law pm_law an_law cd_law ct_law), sl_law⟩)
    (c_law : PySem.W.codeIn K cd_law "law" = true)
    (k_law : PySem.W.keepIn K (.ref f_law) = true)
    (pg : PySem.W.plainGet K C Str.empty = true)
    (hd : PySem.W.hasDictIn K C = true)
    (po : PySem.W.plainOver K C = true)
    (sa : PySem.W.findIn K (.ref C) "__setattr__" = some (some (.builtin "object.__setattr__")))
    (mk : PySem.W.makesIn K C = true)
    (kc : PySem.W.keepIn K (.ref C) = true)
    (nW : PySem.W.findIn K (.ref C) "width" = some none)
    (nS : PySem.W.findIn K (.ref C) "steps" = some none)
    (z_len : PySem.W.nsIn K mainGlobals "len" = some none)
    (z_zip : PySem.W.nsIn K mainGlobals "zip" = some none)
    (z_tuple : PySem.W.nsIn K mainGlobals "tuple" = some none)
    (z_list : PySem.W.nsIn K mainGlobals "list" = some none)
    (z_sum : PySem.W.nsIn K mainGlobals "sum" = some none)
    (z_abs : PySem.W.nsIn K mainGlobals "abs" = some none)
    (z_int : PySem.W.nsIn K mainGlobals "int" = some none)
    (z_bool : PySem.W.nsIn K mainGlobals "bool" = some none)
    (z_str : PySem.W.nsIn K mainGlobals "str" = some none)
    (z_range : PySem.W.nsIn K mainGlobals "range" = some none)
    (z_enumerate : PySem.W.nsIn K mainGlobals "enumerate" = some none)
    (z_isinstance : PySem.W.nsIn K mainGlobals "isinstance" = some none)
    (z_all : PySem.W.nsIn K mainGlobals "all" = some none)
    (z_max : PySem.W.nsIn K mainGlobals "max" = some none)
    (z_min : PySem.W.nsIn K mainGlobals "min" = some none)
    (z_reversed : PySem.W.nsIn K mainGlobals "reversed" = some none)
    (eg_BadStep : PySem.W.nsIn K mainGlobals "BadStep" = some (some (.ref D_BadStep)))
    (ex_BadStep : PySem.W.excIn K D_BadStep [.type "ValueError", .type "Exception", .type "BaseException", .type "object"] "ValueError.__new__" = true)
    (ek_BadStep : PySem.W.keepIn K (.ref D_BadStep) = true)
    (eb_BadStep : PySem.W.subIn K (.ref D_BadStep) (.type "BaseException") = some true)
    (et_BadStep : PySem.W.typeIn K (.ref D_BadStep) = some (.type "type"))
    (ed_BadStep : PySem.W.hasDictIn K D_BadStep = true)
    (eg_BadWidth : PySem.W.nsIn K mainGlobals "BadWidth" = some (some (.ref D_BadWidth)))
    (ex_BadWidth : PySem.W.excIn K D_BadWidth [.type "ValueError", .type "Exception", .type "BaseException", .type "object"] "ValueError.__new__" = true)
    (ek_BadWidth : PySem.W.keepIn K (.ref D_BadWidth) = true)
    (eb_BadWidth : PySem.W.subIn K (.ref D_BadWidth) (.type "BaseException") = some true)
    (et_BadWidth : PySem.W.typeIn K (.ref D_BadWidth) = some (.type "type"))
    (ed_BadWidth : PySem.W.hasDictIn K D_BadWidth = true)
    (eg_FieldError : PySem.W.nsIn K mainGlobals "FieldError" = some (some (.ref D_FieldError)))
    (ex_FieldError : PySem.W.excIn K D_FieldError [.type "ValueError", .type "Exception", .type "BaseException", .type "object"] "ValueError.__new__" = true)
    (ek_FieldError : PySem.W.keepIn K (.ref D_FieldError) = true)
    (eb_FieldError : PySem.W.subIn K (.ref D_FieldError) (.type "BaseException") = some true)
    (et_FieldError : PySem.W.typeIn K (.ref D_FieldError) = some (.type "type"))
    (ed_FieldError : PySem.W.hasDictIn K D_FieldError = true)
    (eg_NoField : PySem.W.nsIn K mainGlobals "NoField" = some (some (.ref D_NoField)))
    (ex_NoField : PySem.W.excIn K D_NoField [.type "ValueError", .type "Exception", .type "BaseException", .type "object"] "ValueError.__new__" = true)
    (ek_NoField : PySem.W.keepIn K (.ref D_NoField) = true)
    (eb_NoField : PySem.W.subIn K (.ref D_NoField) (.type "BaseException") = some true)
    (et_NoField : PySem.W.typeIn K (.ref D_NoField) = some (.type "type"))
    (ed_NoField : PySem.W.hasDictIn K D_NoField = true)
    (eg_TooMany : PySem.W.nsIn K mainGlobals "TooMany" = some (some (.ref D_TooMany)))
    (ex_TooMany : PySem.W.excIn K D_TooMany [.type "ValueError", .type "Exception", .type "BaseException", .type "object"] "ValueError.__new__" = true)
    (ek_TooMany : PySem.W.keepIn K (.ref D_TooMany) = true)
    (eb_TooMany : PySem.W.subIn K (.ref D_TooMany) (.type "BaseException") = some true)
    (et_TooMany : PySem.W.typeIn K (.ref D_TooMany) = some (.type "type"))
    (ed_TooMany : PySem.W.hasDictIn K D_TooMany = true)
    (eg_Unlike : PySem.W.nsIn K mainGlobals "Unlike" = some (some (.ref D_Unlike)))
    (ex_Unlike : PySem.W.excIn K D_Unlike [.type "ValueError", .type "Exception", .type "BaseException", .type "object"] "ValueError.__new__" = true)
    (ek_Unlike : PySem.W.keepIn K (.ref D_Unlike) = true)
    (eb_Unlike : PySem.W.subIn K (.ref D_Unlike) (.type "BaseException") = some true)
    (et_Unlike : PySem.W.typeIn K (.ref D_Unlike) = some (.type "type"))
    (ed_Unlike : PySem.W.hasDictIn K D_Unlike = true)
    (I_NoField_BadStep : PySem.W.kitOne K (.ref D_NoField) (.ref D_BadStep) = some false)
    (I_NoField_BadWidth : PySem.W.kitOne K (.ref D_NoField) (.ref D_BadWidth) = some false)
    (I_NoField_NoField : PySem.W.kitOne K (.ref D_NoField) (.ref D_NoField) = some true)
    (I_NoField_TooMany : PySem.W.kitOne K (.ref D_NoField) (.ref D_TooMany) = some false)
    (I_NoField_Unlike : PySem.W.kitOne K (.ref D_NoField) (.ref D_Unlike) = some false)
    (I_NoField_ValueError : PySem.W.kitOne K (.ref D_NoField) (.type "ValueError") = some true)
    (yg_NoField : PySem.W.findIn K (.ref D_NoField) "__getattribute__" = some (some (.builtin "BaseException.__getattribute__")))
    (yk_NoField : PySem.W.findIn K (.ref D_NoField) "__getattr__" = some none)
    (ya_NoField : PySem.W.findIn K (.ref D_NoField) "__class__" = some (some (.builtin "object.__class__")))
    (ym_NoField : PySem.W.mroIn K D_NoField (.type "object") = some true)
    (yn : PySem.W.specialIn K (.builtin "object.__class__") "__get__" = some (some (.builtin "getset_descriptor.__get__")))
    (yt : PySem.W.takesIn K (.builtin "object.__class__") = some true)
    (z_ValueError : PySem.W.nsIn K mainGlobals "ValueError" = some none)
    (S_NoField_FieldError : PySem.W.subIn K (.ref D_NoField) (.ref D_FieldError) = some true)
    (gc_MOST_NUMBER : PySem.W.nsIn K mainGlobals "MOST_NUMBER" = some (some (.int 1000000000000000 tc_MOST_NUMBER)))
    (gc_MOST_STEPS : PySem.W.nsIn K mainGlobals "MOST_STEPS" = some (some (.int 6 tc_MOST_STEPS)))
    (gc_WIDEST : PySem.W.nsIn K mainGlobals "WIDEST" = some (some (.int 4 tc_WIDEST)))
    : ∃ fd : FuncData, (∀ (s : Shared) (v : Value), BindsTo s fd ⟨[v], []⟩ [("script", v)]) ∧ ∀ base : Heap, K.In base → base.Ns mainGlobals mg → base.NoSeer → FnOk l.prog w K mg base CX0 46 fa fd ["script"] (spLaw K) := by
  have e := hfa.symm.trans (PySem.W.mg_of X G a_law)
  cases e
  have c_MOST_NUMBER := PySem.W.mg_of X G gc_MOST_NUMBER
  have c_MOST_STEPS := PySem.W.mg_of X G gc_MOST_STEPS
  have c_WIDEST := PySem.W.mg_of X G gc_WIDEST
  have F_Field___init__ := fun_mk (st := s_Field___init__) l_Field___init__ c_Field___init__ k_Field___init__
  have b_Field___init__ := F_Field___init__.binds (ps := ["self", "width", "steps"]) fun _ _ _ _ _ _ us hl => match us, hl with | [_, _, _], _ => rfl
  have F_number_of := fun_mk (st := s_number_of) l_number_of c_number_of k_number_of
  have b_number_of := F_number_of.binds (ps := ["word"]) fun _ _ _ _ _ _ us hl => match us, hl with | [_], _ => rfl
  have F_read := fun_mk (st := s_read) l_read c_read k_read
  have b_read := F_read.binds (ps := ["text"]) fun _ _ _ _ _ _ us hl => match us, hl with | [_], _ => rfl
  have F__law_cell_at := fun_mk (st := s__law_cell_at) l__law_cell_at c__law_cell_at k__law_cell_at
  have b__law_cell_at := F__law_cell_at.binds (ps := ["script", "k"]) fun _ _ _ _ _ _ us hl => match us, hl with | [_, _], _ => rfl
  have F__law_next := fun_mk (st := s__law_next) l__law_next c__law_next k__law_next
  have b__law_next := F__law_next.binds (ps := ["script", "spot"]) fun _ _ _ _ _ _ us hl => match us, hl with | [_, _], _ => rfl
  have F__law_number := fun_mk (st := s__law_number) l__law_number c__law_number k__law_number
  have b__law_number := F__law_number.binds (ps := ["cell", "great"]) fun _ _ _ _ _ _ us hl => match us, hl with | [_, _], _ => rfl
  have F__law_steps := fun_mk (st := s__law_steps) l__law_steps c__law_steps k__law_steps
  have b__law_steps := F__law_steps.binds (ps := ["script", "spot", "width", "most", "great"]) fun _ _ _ _ _ _ us hl => match us, hl with | [_, _, _, _, _], _ => rfl
  have F__law_text := fun_mk (st := s__law_text) l__law_text c__law_text k__law_text
  have b__law_text := F__law_text.binds (ps := ["width", "steps"]) fun _ _ _ _ _ _ us hl => match us, hl with | [_, _], _ => rfl
  have F__law_which := fun_mk (st := s__law_which) l__law_which c__law_which k__law_which
  have b__law_which := F__law_which.binds (ps := ["e"]) fun _ _ _ _ _ _ us hl => match us, hl with | [_], _ => rfl
  have F__law_due := fun_mk (st := s__law_due) l__law_due c__law_due k__law_due
  have b__law_due := F__law_due.binds (ps := ["place"]) fun _ _ _ _ _ _ us hl => match us, hl with | [_], _ => rfl
  have F__law_bad_word := fun_mk (st := s__law_bad_word) l__law_bad_word c__law_bad_word k__law_bad_word
  have b__law_bad_word := F__law_bad_word.binds (ps := ["way", "word"]) fun _ _ _ _ _ _ us hl => match us, hl with | [_, _], _ => rfl
  have F__law_bad_text := fun_mk (st := s__law_bad_text) l__law_bad_text c__law_bad_text k__law_bad_text
  have b__law_bad_text := F__law_bad_text.binds (ps := ["text", "way", "cell"]) fun _ _ _ _ _ _ us hl => match us, hl with | [_, _, _], _ => rfl
  have F__law_refused := fun_mk (st := s__law_refused) l__law_refused c__law_refused k__law_refused
  have b__law_refused := F__law_refused.binds (ps := ["text"]) fun _ _ _ _ _ _ us hl => match us, hl with | [_], _ => rfl
  have F__law_a_number := fun_mk (st := s__law_a_number) l__law_a_number c__law_a_number k__law_a_number
  have b__law_a_number := F__law_a_number.binds (ps := ["word"]) fun _ _ _ _ _ _ us hl => match us, hl with | [_], _ => rfl
  have F__law_written := fun_mk (st := s__law_written) l__law_written c__law_written k__law_written
  have b__law_written := F__law_written.binds (ps := ["text"]) fun _ _ _ _ _ _ us hl => match us, hl with | [_], _ => rfl
  have F__law_one_sign := fun_mk (st := s__law_one_sign) l__law_one_sign c__law_one_sign k__law_one_sign
  have b__law_one_sign := F__law_one_sign.binds (ps := ["script", "text"]) fun _ _ _ _ _ _ us hl => match us, hl with | [_, _], _ => rfl
  have F_law := fun_mk (st := s_law) l_law c_law k_law
  have S : Bl mg := ⟨PySem.W.mg_none_of X G z_len, PySem.W.mg_none_of X G z_zip, PySem.W.mg_none_of X G z_tuple, PySem.W.mg_none_of X G z_list, PySem.W.mg_none_of X G z_sum, PySem.W.mg_none_of X G z_abs, PySem.W.mg_none_of X G z_int, PySem.W.mg_none_of X G z_bool, PySem.W.mg_none_of X G z_str, PySem.W.mg_none_of X G z_range, PySem.W.mg_none_of X G z_enumerate, PySem.W.mg_none_of X G z_isinstance, PySem.W.mg_none_of X G z_all, PySem.W.mg_none_of X G z_max, PySem.W.mg_none_of X G z_min, PySem.W.mg_none_of X G z_reversed⟩
  have FC : FCls K C := ⟨⟨pg, hd, po, sa⟩, nW, nS⟩
  have E_BadStep : ErrC K mg "BadStep" D_BadStep := ⟨PySem.W.mg_of X G eg_BadStep, ex_BadStep, ek_BadStep, eb_BadStep, et_BadStep, ed_BadStep⟩
  have E_BadWidth : ErrC K mg "BadWidth" D_BadWidth := ⟨PySem.W.mg_of X G eg_BadWidth, ex_BadWidth, ek_BadWidth, eb_BadWidth, et_BadWidth, ed_BadWidth⟩
  have E_FieldError : ErrC K mg "FieldError" D_FieldError := ⟨PySem.W.mg_of X G eg_FieldError, ex_FieldError, ek_FieldError, eb_FieldError, et_FieldError, ed_FieldError⟩
  have E_NoField : ErrC K mg "NoField" D_NoField := ⟨PySem.W.mg_of X G eg_NoField, ex_NoField, ek_NoField, eb_NoField, et_NoField, ed_NoField⟩
  have E_TooMany : ErrC K mg "TooMany" D_TooMany := ⟨PySem.W.mg_of X G eg_TooMany, ex_TooMany, ek_TooMany, eb_TooMany, et_TooMany, ed_TooMany⟩
  have E_Unlike : ErrC K mg "Unlike" D_Unlike := ⟨PySem.W.mg_of X G eg_Unlike, ex_Unlike, ek_Unlike, eb_Unlike, et_Unlike, ed_Unlike⟩
  have Y_NoField : ExcC K D_NoField := ⟨yg_NoField, yk_NoField, eb_NoField, ed_NoField, ya_NoField, yn, yt, ym_NoField⟩
  have N_ValueError := PySem.W.mg_none_of X G z_ValueError
  refine ⟨PySem.W.fnOf "law" "law" (defArgs s_law) (defBody s_law) (defScope s_law) .none kV_law dc_law pm_law an_law cd_law ct_law, fun s v => .of_eq rfl, fun base _ _ hs => ?_⟩
  have T : Ctx l.prog K mg base := ⟨S, hs, ht⟩
  have M_Field : CalM l.prog w K mg base 41 "Field" C _ _ := ⟨_, _, ⟨mk, a_Field___init__, i_Field___init__, kc⟩, ok_Field___init__ (P := l.prog) (w := w) F_Field___init__ T FC c_WIDEST c_MOST_STEPS, PySem.W.mg_of X G aC, b_Field___init__⟩
  have X_number_of : CalX l.prog w K mg base 41 "number_of" _ _ := ⟨_, _, okx_number_of (P := l.prog) (w := w) F_number_of T E_NoField c_MOST_NUMBER, PySem.W.mg_of X G a_number_of, k_number_of, b_number_of⟩
  have X_read : CalX l.prog w K mg base 43 "read" _ _ := ⟨_, _, okx_read (P := l.prog) (w := w) F_read T E_NoField c_MOST_STEPS c_WIDEST M_Field X_number_of, PySem.W.mg_of X G a_read, k_read, b_read⟩
  have C_read : Cal l.prog w K mg base 43 "read" _ _ := ⟨_, _, ok_read (P := l.prog) (w := w) F_read T E_NoField c_MOST_STEPS c_WIDEST M_Field X_number_of, PySem.W.mg_of X G a_read, k_read, b_read⟩
  have C__law_cell_at : Cal l.prog w K mg base 41 "_law_cell_at" _ _ := ⟨_, _, ok__law_cell_at (P := l.prog) (w := w) F__law_cell_at T, PySem.W.mg_of X G a__law_cell_at, k__law_cell_at, b__law_cell_at⟩
  have C__law_next : Cal l.prog w K mg base 42 "_law_next" _ _ := ⟨_, _, ok__law_next (P := l.prog) (w := w) F__law_next T C__law_cell_at, PySem.W.mg_of X G a__law_next, k__law_next, b__law_next⟩
  have C__law_number : Cal l.prog w K mg base 41 "_law_number" _ _ := ⟨_, _, ok__law_number (P := l.prog) (w := w) F__law_number T, PySem.W.mg_of X G a__law_number, k__law_number, b__law_number⟩
  have C__law_steps : Cal l.prog w K mg base 43 "_law_steps" _ _ := ⟨_, _, ok__law_steps (P := l.prog) (w := w) F__law_steps T C__law_next C__law_number, PySem.W.mg_of X G a__law_steps, k__law_steps, b__law_steps⟩
  have C__law_text : Cal l.prog w K mg base 41 "_law_text" _ _ := ⟨_, _, ok__law_text (P := l.prog) (w := w) F__law_text T, PySem.W.mg_of X G a__law_text, k__law_text, b__law_text⟩
  have C__law_which : CalP l.prog w K mg base 41 "_law_which" _ _ := ⟨_, _, okp__law_which (P := l.prog) (w := w) F__law_which T E_BadStep E_BadWidth E_NoField E_TooMany E_Unlike N_ValueError, PySem.W.mg_of X G a__law_which, k__law_which, b__law_which⟩
  have C__law_due : Cal l.prog w K mg base 41 "_law_due" _ _ := ⟨_, _, ok__law_due (P := l.prog) (w := w) F__law_due T, PySem.W.mg_of X G a__law_due, k__law_due, b__law_due⟩
  have C__law_bad_word : Cal l.prog w K mg base 41 "_law_bad_word" _ _ := ⟨_, _, ok__law_bad_word (P := l.prog) (w := w) F__law_bad_word T, PySem.W.mg_of X G a__law_bad_word, k__law_bad_word, b__law_bad_word⟩
  have C__law_bad_text : Cal l.prog w K mg base 42 "_law_bad_text" _ _ := ⟨_, _, ok__law_bad_text (P := l.prog) (w := w) F__law_bad_text T C__law_bad_word, PySem.W.mg_of X G a__law_bad_text, k__law_bad_text, b__law_bad_text⟩
  have C__law_refused : Cal l.prog w K mg base 44 "_law_refused" _ _ := ⟨_, _, ok__law_refused (P := l.prog) (w := w) F__law_refused T E_FieldError S_NoField_FieldError Y_NoField I_NoField_BadStep I_NoField_BadWidth I_NoField_NoField I_NoField_TooMany I_NoField_Unlike I_NoField_ValueError X_read C__law_which C__law_due, PySem.W.mg_of X G a__law_refused, k__law_refused, b__law_refused⟩
  have C__law_a_number : Cal l.prog w K mg base 41 "_law_a_number" _ _ := ⟨_, _, ok__law_a_number (P := l.prog) (w := w) F__law_a_number T, PySem.W.mg_of X G a__law_a_number, k__law_a_number, b__law_a_number⟩
  have C__law_written : Cal l.prog w K mg base 42 "_law_written" _ _ := ⟨_, _, ok__law_written (P := l.prog) (w := w) F__law_written T C__law_a_number, PySem.W.mg_of X G a__law_written, k__law_written, b__law_written⟩
  have C__law_one_sign : Cal l.prog w K mg base 45 "_law_one_sign" _ _ := ⟨_, _, ok__law_one_sign (P := l.prog) (w := w) F__law_one_sign T FC C__law_cell_at C__law_written C__law_refused C_read, PySem.W.mg_of X G a__law_one_sign, k__law_one_sign, b__law_one_sign⟩
  exact ok_law (P := l.prog) (w := w) F_law T FC C__law_cell_at C__law_steps C__law_text C__law_bad_text C__law_refused C_read C__law_one_sign
end SF
open PySem PySem.W PyProof.Rows
set_option maxRecDepth 100000 in
set_option maxHeartbeats 0 in
theorem PySem.Challenge.cw_stepfield_k03_texts_refused_holds : PySem.Challenge.rw_stepfield_k03_texts_refused.Holds := by
  w_on; o_law; k_head; (case hw => w_witness2)
  k_fill
  refine SF.walk_ofS (l := PySem.Challenge.rw_stepfield_k03_texts_refused) (n := 63) (k := 46) (x := "script") (CX := L2.CX0) (sp := fun K => SF.spLaw K) rfl (by decide) rfl ⟨rfl, by decide, by decide⟩ (by decide +kernel) (fun w h Y => PySem.W.kIn_of Y) ?F (fun _ H a ns hl ho hS => ⟨a, ns, rfl, SF.scr_of ho hS, hl, fun _ => rfl⟩) (fun _ _ _ _ h => h)
  case F =>
    intro w mg fa h KX G hmg0
    have hmg : mg "law" = some (.ref fa) := hmg0
    clear hmg0
    refine' SF.all_mk (l := PySem.Challenge.rw_stepfield_k03_texts_refused) KX G hmg rfl ?aC ?a_Field___init__ ?i_Field___init__ ?l_Field___init__ ?c_Field___init__ ?k_Field___init__ ?a_number_of ?l_number_of ?c_number_of ?k_number_of ?a_read ?l_read ?c_read ?k_read ?a__law_cell_at ?l__law_cell_at ?c__law_cell_at ?k__law_cell_at ?a__law_next ?l__law_next ?c__law_next ?k__law_next ?a__law_number ?l__law_number ?c__law_number ?k__law_number ?a__law_steps ?l__law_steps ?c__law_steps ?k__law_steps ?a__law_text ?l__law_text ?c__law_text ?k__law_text ?a__law_which ?l__law_which ?c__law_which ?k__law_which ?a__law_due ?l__law_due ?c__law_due ?k__law_due ?a__law_bad_word ?l__law_bad_word ?c__law_bad_word ?k__law_bad_word ?a__law_bad_text ?l__law_bad_text ?c__law_bad_text ?k__law_bad_text ?a__law_refused ?l__law_refused ?c__law_refused ?k__law_refused ?a__law_a_number ?l__law_a_number ?c__law_a_number ?k__law_a_number ?a__law_written ?l__law_written ?c__law_written ?k__law_written ?a__law_one_sign ?l__law_one_sign ?c__law_one_sign ?k__law_one_sign ?a_law ?l_law ?c_law ?k_law ?pg ?hd ?po ?sa ?mk ?kc ?nW ?nS ?z_len ?z_zip ?z_tuple ?z_list ?z_sum ?z_abs ?z_int ?z_bool ?z_str ?z_range ?z_enumerate ?z_isinstance ?z_all ?z_max ?z_min ?z_reversed ?eg_BadStep ?ex_BadStep ?ek_BadStep ?eb_BadStep ?et_BadStep ?ed_BadStep ?eg_BadWidth ?ex_BadWidth ?ek_BadWidth ?eb_BadWidth ?et_BadWidth ?ed_BadWidth ?eg_FieldError ?ex_FieldError ?ek_FieldError ?eb_FieldError ?et_FieldError ?ed_FieldError ?eg_NoField ?ex_NoField ?ek_NoField ?eb_NoField ?et_NoField ?ed_NoField ?eg_TooMany ?ex_TooMany ?ek_TooMany ?eb_TooMany ?et_TooMany ?ed_TooMany ?eg_Unlike ?ex_Unlike ?ek_Unlike ?eb_Unlike ?et_Unlike ?ed_Unlike ?I_NoField_BadStep ?I_NoField_BadWidth ?I_NoField_NoField ?I_NoField_TooMany ?I_NoField_Unlike ?I_NoField_ValueError ?yg_NoField ?yk_NoField ?ya_NoField ?ym_NoField ?yn ?yt ?z_ValueError ?S_NoField_FieldError ?gc_MOST_NUMBER ?gc_MOST_STEPS ?gc_WIDEST
    (case aC => k_is); (case a_Field___init__ => k_is); (case i_Field___init__ => k_is); (case l_Field___init__ => k_is); (case c_Field___init__ => k_is); (case k_Field___init__ => k_is); (case a_number_of => k_is); (case l_number_of => k_is)
    (case c_number_of => k_is); (case k_number_of => k_is); (case a_read => k_is); (case l_read => k_is); (case c_read => k_is); (case k_read => k_is); (case a__law_cell_at => k_is); (case l__law_cell_at => k_is)
    (case c__law_cell_at => k_is); (case k__law_cell_at => k_is); (case a__law_next => k_is); (case l__law_next => k_is); (case c__law_next => k_is); (case k__law_next => k_is); (case a__law_number => k_is); (case l__law_number => k_is)
    (case c__law_number => k_is); (case k__law_number => k_is); (case a__law_steps => k_is); (case l__law_steps => k_is); (case c__law_steps => k_is); (case k__law_steps => k_is); (case a__law_text => k_is); (case l__law_text => k_is)
    (case c__law_text => k_is); (case k__law_text => k_is); (case a__law_which => k_is); (case l__law_which => k_is); (case c__law_which => k_is); (case k__law_which => k_is); (case a__law_due => k_is); (case l__law_due => k_is)
    (case c__law_due => k_is); (case k__law_due => k_is); (case a__law_bad_word => k_is); (case l__law_bad_word => k_is); (case c__law_bad_word => k_is); (case k__law_bad_word => k_is); (case a__law_bad_text => k_is); (case l__law_bad_text => k_is)
    (case c__law_bad_text => k_is); (case k__law_bad_text => k_is); (case a__law_refused => k_is); (case l__law_refused => k_is); (case c__law_refused => k_is); (case k__law_refused => k_is); (case a__law_a_number => k_is); (case l__law_a_number => k_is)
    (case c__law_a_number => k_is); (case k__law_a_number => k_is); (case a__law_written => k_is); (case l__law_written => k_is); (case c__law_written => k_is); (case k__law_written => k_is); (case a__law_one_sign => k_is); (case l__law_one_sign => k_is)
    (case c__law_one_sign => k_is); (case k__law_one_sign => k_is); (case a_law => k_is); (case l_law => k_is); (case c_law => k_is); (case k_law => k_is); (case pg => k_is); (case hd => k_is)
    (case po => k_is); (case sa => k_is); (case mk => k_is); (case kc => k_is); (case nW => k_is); (case nS => k_is); (case z_len => k_is); (case z_zip => k_is)
    (case z_tuple => k_is); (case z_list => k_is); (case z_sum => k_is); (case z_abs => k_is); (case z_int => k_is); (case z_bool => k_is); (case z_str => k_is); (case z_range => k_is)
    (case z_enumerate => k_is); (case z_isinstance => k_is); (case z_all => k_is); (case z_max => k_is); (case z_min => k_is); (case z_reversed => k_is); (case eg_BadStep => k_is); (case ex_BadStep => k_exc)
    (case ek_BadStep => k_is); (case eb_BadStep => k_is); (case et_BadStep => k_is); (case ed_BadStep => k_is); (case eg_BadWidth => k_is); (case ex_BadWidth => k_exc); (case ek_BadWidth => k_is); (case eb_BadWidth => k_is)
    (case et_BadWidth => k_is); (case ed_BadWidth => k_is); (case eg_FieldError => k_is); (case ex_FieldError => k_exc); (case ek_FieldError => k_is); (case eb_FieldError => k_is); (case et_FieldError => k_is); (case ed_FieldError => k_is)
    (case eg_NoField => k_is); (case ex_NoField => k_exc); (case ek_NoField => k_is); (case eb_NoField => k_is); (case et_NoField => k_is); (case ed_NoField => k_is); (case eg_TooMany => k_is); (case ex_TooMany => k_exc)
    (case ek_TooMany => k_is); (case eb_TooMany => k_is); (case et_TooMany => k_is); (case ed_TooMany => k_is); (case eg_Unlike => k_is); (case ex_Unlike => k_exc); (case ek_Unlike => k_is); (case eb_Unlike => k_is)
    (case et_Unlike => k_is); (case ed_Unlike => k_is); (case I_NoField_BadStep => first | rfl | k_is); (case I_NoField_BadWidth => first | rfl | k_is); (case I_NoField_NoField => first | rfl | k_is); (case I_NoField_TooMany => first | rfl | k_is); (case I_NoField_Unlike => first | rfl | k_is); (case I_NoField_ValueError => first | rfl | k_is)
    (case yg_NoField => first | rfl | k_is); (case yk_NoField => first | rfl | k_is); (case ya_NoField => first | rfl | k_is); (case ym_NoField => first | rfl | k_is); (case yn => first | rfl | k_is); (case yt => first | rfl | k_is); (case z_ValueError => k_is); (case S_NoField_FieldError => first | rfl | k_is)
    (case gc_MOST_NUMBER => k_is); (case gc_MOST_STEPS => k_is); (case gc_WIDEST => k_is)
