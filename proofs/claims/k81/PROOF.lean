import PyProof.Rows.All
import Wide.All
import OpenK.AllK
import Wide.FinOn
import HandS.ForMost
import HandS.Deep
import HandS.TupAny
import HandS.TupMul
import HandS.Conv
import HandS.Style
import HandS.SortInts
import HandS.Walk
import HandS.Zip
import HandS.Rev
import HandS.Strs
import HandS.ExcValue
import PySem.Challenge.RW_leastlattices_k81_whole_greatest_product
set_option Elab.async false
set_option linter.all false
set_option maxRecDepth 100000
set_option maxHeartbeats 4000000
/-! DL0: tuples that are known to bear no dict: made so, asked so. -/
namespace DL
open PySem PySem.Spec PyProof.Rows L2

def tup0 (its : List Value) : Obj := { cls := .type "tuple", data := .seq its.toArray }
/-- a tuple of vs at a, its object known to bear no dict -/
def TD (K : PySem.W.Frag) (H : Hp) (a : Addr) (vs : List V) : Prop :=
  (∃ its, H a = some (.frz (tup0 its) (.tup vs))) ∨
    ∃ (o : Obj) (its : Array Value) (n : Nat), K.lookup a = some o ∧ o.cls = .type "tuple" ∧ o.dict = none ∧ o.data = .seq its n ∧ its.size ≤ sizeLine ∧ Vals vs its.toList
theorem TD.sq {K : PySem.W.Frag} {H : Hp} {a : Addr} {vs : List V} (h : TD K H a vs) : SqT K H a vs := by
  rcases h with ⟨its, h⟩ | ⟨o, its, n, h1, h2, h3, h4, h5, h6⟩
  · exact .inl (.inr ⟨_, h⟩)
  · exact .inr ⟨o, its, n, h1, h2, h4, h5, h6⟩
theorem TD.mono {K : PySem.W.Frag} {H H' : Hp} {a : Addr} {vs : List V} (e : Same H H') (h : TD K H a vs) : TD K H' a vs := by
  rcases h with ⟨its, h⟩ | h
  · exact .inl ⟨its, e _ _ h⟩
  · exact .inr h
section
variable {X : Cx} {pins : List (Addr × Obj)} {σ : L2.St} {H : Hp} {s : Shared}
/-- a new tuple, its object known -/
theorem tup_in {vs : List V} {its : List Value} {t' : Nat} (I : Inv X pins σ H s) (hv : Vals vs its) (hz : vs.length ≤ sizeLine) :
    Inv X pins σ (upd H s.heap.objs.size (.frz (tup0 its) (.tup vs))) { s with heap := s.heap.push (tup0 its), toks := t' } := by
  refine I.laid (fun _ _ q => Heap.get?_push_of_some _ q) (Nat.le_refl _) ⟨Heap.get?_push_size _ rfl, hz, its, hv, ?_⟩
  exact ⟨_, Heap.get?_push_size _ rfl, rfl, _, rfl⟩
theorem TD.obj {a : Addr} {vs : List V} (I : Inv X pins σ H s) (h : TD X.K H a vs) : ∃ ob, s.heap.get? a = some ob ∧ ob.dict = none := by
  rcases h with ⟨its, h⟩ | ⟨o, its, n, h1, h2, h3, _⟩
  · obtain ⟨e, _⟩ := I.hok a _ h
    exact ⟨_, e, rfl⟩
  · exact ⟨o, I.kIn a o h1, h3⟩

/-! ### made by a display -/
def tTup0 (t : TA) : TE := fun σ H Q => t σ H fun xs H1 => xs.length ≤ sizeLine ∧ ∀ p its, H1 p = none → Q (.ref p) (upd H1 p (.frz (tup0 its) (.tup xs)))
theorem pe_tup0 {es : List Expr} {t : TA} {pos : Pos} {x1} (h : PA X es t) : PE X (.Tuple es x1 pos) (tTup0 t) := by
  refine ⟨fun pins s σ H Q I hq => ?_⟩
  refine wpAny_Tuple_spliced (thn (h.run pos pins s σ H _ I hq) fun us s1 ⟨xs, H1, I1, r, z, q⟩ => ⟨by rw [← r.length]; exact z, ?_⟩)
  exact ⟨.ref _, _, tup_in (t' := s1.toks) I1 r z, rfl, q _ us (I1.hok.fresh (Nat.le_refl _))⟩

/-! ### t + u -/
def rCat0 (K : PySem.W.Frag) : R2 := fun x y H Q => ∃ a b xs ys, x = .ref a ∧ y = .ref b ∧ SqT K H a xs ∧ SqT K H b ys ∧ xs.length + ys.length ≤ sizeLine ∧
  (xs = [] → Q (.ref b) H) ∧ (xs ≠ [] → ys = [] → Q (.ref a) H) ∧ (xs ≠ [] → ys ≠ [] → ∀ p its, H p = none → Q (.ref p) (upd H p (.frz (tup0 its) (.tup (xs ++ ys)))))
theorem op_cat0 : OpR X (binaryOp .Add) (rCat0 X.K) := by
  intro pins s σ H x y v u Q I rx ry h
  obtain ⟨a, b, xs, ys, rfl, rfl, ha, hb, hz, q0, q1, q2⟩ := h
  obtain ⟨its, r1, p1, _⟩ := I.tuple ha
  obtain ⟨its2, r2, p2, _⟩ := I.tuple hb
  cases rx
  cases ry
  by_cases hx : xs = []
  · subst hx
    cases r1
    exact cat_tup0 p1 p2 ⟨.ref _, H, I, rfl, q0 rfl⟩
  · refine HT.cat_tup p1 p2 (fun z => hx (r1.nil_iff.mp z)) (fun z => ⟨.ref _, H, I, rfl, q1 hx (r2.nil_iff.mp z)⟩) (fun z => ?_) (by rw [← r1.length, ← r2.length]; exact hz)
    exact ⟨.ref _, _, tup_in (t' := s.toks) I (r1.append r2) (by rw [List.length_append]; exact hz), rfl, q2 hx (fun w => z (r2.nil_iff.mpr w)) _ (its ++ its2) (I.hok.fresh (Nat.le_refl _))⟩

/-! ### t[lo:hi] -/
def rSl0 (K : PySem.W.Frag) : V → Option Int → Option Int → Hp → VK → Prop := fun x lo hi H Q => ∃ a xs, x = .ref a ∧ SqT K H a xs ∧
  (HT.sIx xs.length 0 lo = 0 ∧ HT.sIx xs.length xs.length hi = xs.length → Q (.ref a) H) ∧
  (¬ (HT.sIx xs.length 0 lo = 0 ∧ HT.sIx xs.length xs.length hi = xs.length) → ∀ p its, H p = none → Q (.ref p) (upd H p (.frz (tup0 its) (.tup (cutV xs lo hi)))))
theorem sl_tup0 : SlR X (rSl0 X.K) := by
  intro pins s σ H x v vl vu lo hi sl Q I rx hs pl pu h
  obtain ⟨a, xs, rfl, hx, q1, q2⟩ := h
  cases rx
  obtain ⟨its, r, ht, hz⟩ := I.tuple hx
  have hn : its.toArray.size = xs.length := by rw [List.size_toArray]; exact r.length.symm
  refine ⟨"tuple", _, PyProof.Rows.slot_tuple_getitem.lookup, ht.typeIs, ?_⟩
  by_cases hw : HT.sIx xs.length 0 lo = 0 ∧ HT.sIx xs.length xs.length hi = xs.length
  · exact getItem_tuple_whole ht hs pl pu (by rw [hn]; exact hw) ⟨.ref _, H, I, rfl, q1 hw⟩
  · refine HT.getItem_tuple_cut ht hs pl pu (by rw [hn]; exact hw) ?_ (by rw [hn]; exact hz)
    rw [hn]
    exact ⟨.ref _, _, tup_in (t' := s.toks) I ((r.drop _).take _) (Nat.le_trans (cutV_length xs lo hi) hz), rfl, q2 hw _ _ (I.hok.fresh (Nat.le_refl _))⟩

/-! ### tuple(x) -/
def rTup0 (K : PySem.W.Frag) : List V → Hp → VK → Prop := fun xs H Q => ∃ p ys, xs = [.ref p] ∧ ((SqL K H p ys ∧ ∀ l its, H l = none → Q (.ref l) (upd H l (.frz (tup0 its) (.tup ys)))) ∨ (SqT K H p ys ∧ Q (.ref p) H))
theorem call_tup0 : CallR X (.type "tuple") (rTup0 X.K) := by
  intro pins s σ H xs us Q I r h
  obtain ⟨p, ys, rfl, h⟩ := h
  obtain ⟨u, rfl, rx⟩ := vals1 r
  cases rx
  rcases h with ⟨hq, q⟩ | ⟨hq, q⟩
  · obtain ⟨its, r', pl, hz⟩ := I.list hq
    have hl := r'.length
    refine call_tuple_list pl.isList (fun h' kp => ?_) (by rw [List.size_toArray]; omega)
    have I1 : Inv X pins σ H { s with heap := h' } := I.kept (t' := s.toks) kp
    exact ⟨.ref _, _, tup_in (t' := s.toks) I1 r' hz, rfl, q _ its (I1.hok.fresh (Nat.le_refl _))⟩
  · obtain ⟨its, r', pl, hz⟩ := I.tuple hq
    exact call_tuple_same pl ⟨.ref _, H, I, rfl, q⟩
def tTupRg0 (te : L2.St → Hp → (Int → Int → Hp → Prop) → Prop) : TE := fun σ H Q => te σ H fun a b H1 => RgOk a b ∧ ∀ q its, H1 q = none → Q (.ref q) (upd H1 q (.frz (tup0 its) (.tup (rgV a b))))
theorem pe_tupRg0 {e : Expr} {te : L2.St → Hp → (Int → Int → Hp → Prop) → Prop} {p pos : Pos} (hc : X.calm = true) (hg : Gl X "tuple") (hm : X.mg "tuple" = none) (he : PRg X e te) (na : starEach [e] X.env = (false, eval e X.env) :: starEach [] X.env := by rfl) :
    PE X (.Call (.Name "tuple" p) [e] [] pos) (tTupRg0 te) := by
  refine ⟨fun pins s σ H Q I h => ?_⟩
  refine Call_ (ld_blt I hg hm boot_tuple (PyProof.Rows.callWith_type1 (args_cons (thn (he pins s σ H _ I h) fun x s1 ⟨r, a, b, t, u, v, H1, ex, hr, I1, ok, q⟩ => args_nil ?_) na) na))
  subst ex
  obtain ⟨b1, b2, b3, b4, b5⟩ := ok
  refine call_tuple_range (n := (b - a).toNat) (I1.ok.hd hc) hr (small_one b1 b2 b3 b4) (rangeSize_nat a b) b5 fun h' tk acc hk hi => ?_
  have I2 : Inv X pins σ H1 { s1 with heap := h', toks := tk } := I1.kept hk
  have e0 : (tup0 acc.toList) = { cls := .type "tuple", data := .seq acc } := by unfold tup0; rw [Array.toArray_toList]
  have I3 := tup_in (t' := tk) I2 (vals_rg hi) (by rw [rgV_length, sizeLine_eq]; omega)
  rw [e0] at I3
  refine ⟨.ref _, _, I3, rfl, ?_⟩
  rw [← e0]
  exact q _ _ (I2.hok.fresh (Nat.le_refl _))

/-! ### t.index(x) -/
def rTIx (K : PySem.W.Frag) : V → List V → Hp → VK → Prop := fun x xs H Q => ∃ (a : Addr) (ys : List V) (y : V) (j : Nat) (z : V), x = V.ref a ∧ xs = [y] ∧ SqT K H a ys ∧ flatV y = true ∧ ys.all flatV = true ∧ ys[j]? = some z ∧ eqV z y = true ∧
  (∀ (m : Nat) (z' : V), m < j → ys[m]? = some z' → eqV z' y = false) ∧ Q (.int (j : Nat)) H
theorem mt_tix : MtR X "tuple.index" (rTIx X.K) := by
  intro pins s σ H x xs v us Q I rx rs h
  obtain ⟨p, ys, y, j, z, rfl, rfl, hq, fy, fys, hy, he, hno, q⟩ := h
  cases rx
  obtain ⟨u, rfl, ru⟩ := vals1 rs
  obtain ⟨its, r, pl, hz⟩ := I.tuple hq
  obtain ⟨⟨cls, dd, dt, sl⟩, ho, hc, n, hd⟩ := pl
  simp only at hc hd
  subst hc
  subst hd
  have hl : its.toArray.size = ys.length := by rw [List.size_toArray, ← r.length]
  have hj : j < its.toArray.size := by rw [hl]; exact (List.getElem?_eq_some_iff.mp hy).1
  have aux : ∀ (m : Nat) (hm : m < its.toArray.size) (w : V), ys[m]? = some w → RelV w its.toArray[m] := fun m hm w hw => by
    obtain ⟨w', h1, h2⟩ := r.get hw
    have e := (List.getElem?_eq_some_iff.mp h1).2
    have e2 : its.toArray[m] = its[m]'(by simpa using hm) := by simp
    rw [e2, e]
    exact h2
  have eU : ∀ (m : Nat) (hm : m < its.toArray.size) (w : V), ys[m]? = some w → eqU y its.toArray[m] = eqV w y := fun m hm w hw => by
    have ra := aux m hm w hw
    have fw : flatV w = true := flat_at fys hw
    unfold eqU
    cases w with
    | non => rw [show its.toArray[m] = _ from ra]
    | bl b => rw [show its.toArray[m] = _ from ra]
    | int i => obtain ⟨t, e⟩ := ra; rw [e]
    | str x => obtain ⟨t, e⟩ := ra; rw [e]
    | byt _ => cases fw
    | flt _ => cases fw
    | ref _ => cases fw
    | ty _ => cases fw
  refine call_meets PySem.F.slot_tuple_index ⟨_, ho, rfl⟩ PySem.F.entry_tuple_index (PySem.F.args_tuple_index_2 _ _) (TI.tuple_indexAt p its.toArray n dd sl u (eqU y) j hj ?_ ?_)
    ⟨ho, fun w hw => mem_eqAt ru fy r fys w (by simpa using hw), ⟨.int (j : Nat), H, I.tok _, ⟨_, rfl⟩, q⟩⟩
  · rw [eU j hj z hy]; exact he
  · intro m hm hmj
    have hm' : m < ys.length := by rw [← hl]; exact hm
    rw [eU m hm _ (List.getElem?_eq_getElem hm')]
    exact hno m _ hmj (List.getElem?_eq_getElem hm')
def tBMT (K : PySem.W.Frag) (r : V → List V → Hp → VK → Prop) (to : TE) (t : TA) : TE := fun σ H Q => to σ H fun x H1 => (∃ p vs, x = .ref p ∧ TD K H1 p vs) ∧ t σ H1 fun xs H2 => r x xs H2 Q
theorem pe_bmT {o e : Expr} {es : List Expr} {to : TE} {t : TA} {name : Str} {apos cpos : Pos} {id : String} {r : V → List V → Hp → VK → Prop}
    (pa : PlainAttrs "tuple") (slot : Slot "tuple" name id) (hty : typeOf (.builtin id) = pure (.type "method_descriptor")) (hm : MtR X id r) (ho : PE X o to) (ha : PA X (e :: es) t)
    (hbase : attributeBase o name X.env (eval o X.env) = eval o X.env := by rfl)
    (hfew : ((backTo cpos (starEach (e :: es) X.env)).all (fun x => !x.1) && (backToKw cpos (keywordEach [] X.env)).all (fun x => x.1.isSome)
      && decide ((e :: es).length + ([] : List Keyword).length + (if ([] : List Keyword).isEmpty then 0 else 1) < 30)) = true := by rfl)
    (hline : (apos.endLine == cpos.line) = true := by rfl) (hs : starEach (e :: es) X.env = (false, eval e X.env) :: starEach es X.env := by rfl) (hplain : (backTo cpos (starEach es X.env)).any (·.1) = false := by rfl) :
    PE X (.Call (.Attribute o name apos) (e :: es) [] cpos) (tBMT X.K r to t) := by
  refine ⟨fun pins s σ H Q I h => ?_⟩
  refine wpAny_Call_method_late hbase hfew hline rfl (thn (ho.run pins s σ H _ I h) fun v s1 ⟨x, H1, I1, r1, ⟨p, vs, ex, td⟩, q1⟩ => ?_)
  subst ex
  cases r1
  obtain ⟨its, _, ht, _⟩ := I1.tuple td.sq
  refine ⟨"tuple", id, pa, slot, hty, ht.typeIs, fun a ea => by cases ea; exact TD.obj I1 td, ?_⟩
  have hA := ha.run cpos pins s1 σ H1 _ I1 q1
  rw [hs] at hA ⊢
  refine Calls.callWith_builtin (by show (false || (backTo cpos (starEach es X.env)).any (·.1)) = false; rw [hplain] <;> rfl) (Calls.evalArgs_plain ?_)
  exact thn hA fun us s2 ⟨ws, H2, I2, r2, q2⟩ => hm pins s2 σ H2 (.ref p) ws _ us Q I2 rfl r2 q2
end
end DL

set_option Elab.async false
set_option linter.all false
set_option maxRecDepth 100000
set_option maxHeartbeats 4000000
/-! DL1: deep data, owners, environments, the judgements. -/
namespace DL
open PySem PySem.Spec PyProof.Rows L2

abbrev D := PyData

mutual
/-- what a value stands for, over the frozen heap F -/
inductive Dq (K : PySem.W.Frag) (F : Hp) : V → D → Prop
  | non : Dq K F .non .none
  | bl (b : Bool) : Dq K F (.bl b) (.bool b)
  | int (i : Int) : Dq K F (.int i) (.int i)
  | str (x : Str) : Dq K F (.str x) (.str x)
  | lst {a : Addr} {vs : List V} {ds : List D} : F a = some (.lst vs) → DqAll K F vs ds → Dq K F (.ref a) (.list ds)
  | tup {a : Addr} {vs : List V} {ds : List D} : TD K F a vs → DqAll K F vs ds → Dq K F (.ref a) (.tuple ds)
inductive DqAll (K : PySem.W.Frag) (F : Hp) : List V → List D → Prop
  | nil : DqAll K F [] []
  | cons {v : V} {vs : List V} {d : D} {ds : List D} : Dq K F v d → DqAll K F vs ds → DqAll K F (v :: vs) (d :: ds)
end

section
variable {K : PySem.W.Frag} {F F' : Hp}
mutual
theorem Dq.mono (e : Same F F') : ∀ {v : V} {d : D}, Dq K F v d → Dq K F' v d
  | _, _, .non => .non
  | _, _, .bl b => .bl b
  | _, _, .int i => .int i
  | _, _, .str x => .str x
  | _, _, .lst h a => .lst (e _ _ h) (DqAll.mono e a)
  | _, _, .tup h a => .tup (h.mono e) (DqAll.mono e a)
theorem DqAll.mono (e : Same F F') : ∀ {vs : List V} {ds : List D}, DqAll K F vs ds → DqAll K F' vs ds
  | _, _, .nil => .nil
  | _, _, .cons a b => .cons (Dq.mono e a) (DqAll.mono e b)
end
mutual
theorem Dq.dp : ∀ {v : V} {d : D}, Dq K F v d → Dp K F v d
  | _, _, .non => .non
  | _, _, .bl b => .bl b
  | _, _, .int i => .int i
  | _, _, .str x => .str x
  | _, _, .lst h a => .lst (SqL.of h) (DqAll.dp a)
  | _, _, .tup h a => .tup h.sq (DqAll.dp a)
theorem DqAll.dp : ∀ {vs : List V} {ds : List D}, DqAll K F vs ds → DpAll K F vs ds
  | _, _, .nil => .nil
  | _, _, .cons a b => .cons (Dq.dp a) (DqAll.dp b)
end
theorem DqAll.len : ∀ {vs : List V} {ds : List D}, DqAll K F vs ds → vs.length = ds.length
  | _, _, .nil => rfl
  | _, _, .cons _ b => by simp [DqAll.len b]
theorem DqAll.get : ∀ {vs : List V} {ds : List D} {i : Nat} {d : D}, DqAll K F vs ds → ds[i]? = some d → ∃ v, vs[i]? = some v ∧ Dq K F v d
  | _, _, i, d, .nil, h => by simp at h
  | _, _, 0, d, .cons a b, h => ⟨_, rfl, by simp at h; subst h; exact a⟩
  | _, _, i + 1, d, .cons a b, h => by
    obtain ⟨v, h1, h2⟩ := DqAll.get (i := i) b (by simpa using h)
    exact ⟨v, by simpa using h1, h2⟩
theorem DqAll.append : ∀ {vs ws : List V} {ds es : List D}, DqAll K F vs ds → DqAll K F ws es → DqAll K F (vs ++ ws) (ds ++ es)
  | _, _, _, _, .nil, b => b
  | _, _, _, _, .cons a t, b => .cons a (DqAll.append t b)
theorem DqAll.take : ∀ {vs : List V} {ds : List D} (n : Nat), DqAll K F vs ds → DqAll K F (vs.take n) (ds.take n)
  | _, _, 0, _ => .nil
  | _, _, _ + 1, .nil => .nil
  | _, _, n + 1, .cons a b => .cons a (DqAll.take n b)
theorem DqAll.drop : ∀ {vs : List V} {ds : List D} (n : Nat), DqAll K F vs ds → DqAll K F (vs.drop n) (ds.drop n)
  | _, _, 0, h => h
  | _, _, _ + 1, .nil => .nil
  | _, _, n + 1, .cons a b => DqAll.drop n b
theorem DqAll.set {v : V} {d : D} (hv : Dq K F v d) : ∀ {vs : List V} {ds : List D} (n : Nat), DqAll K F vs ds → DqAll K F (vs.set n v) (ds.set n d)
  | _, _, _, .nil => .nil
  | _, _, 0, .cons a b => .cons hv b
  | _, _, n + 1, .cons a b => .cons a (DqAll.set hv n b)
theorem DqAll.eraseIdx : ∀ {vs : List V} {ds : List D} (n : Nat), DqAll K F vs ds → DqAll K F (vs.eraseIdx n) (ds.eraseIdx n)
  | _, _, _, .nil => .nil
  | _, _, 0, .cons a b => b
  | _, _, n + 1, .cons a b => .cons a (DqAll.eraseIdx n b)
theorem DqAll.reverse : ∀ {vs : List V} {ds : List D}, DqAll K F vs ds → DqAll K F vs.reverse ds.reverse
  | _, _, .nil => .nil
  | _, _, .cons a b => by
    rw [List.reverse_cons, List.reverse_cons]
    exact (DqAll.reverse b).append (.cons a .nil)
theorem Dq.int_inv {v : V} {i : Int} (h : Dq K F v (.int i)) : v = .int i := by cases h; rfl
theorem Dq.bl_inv {v : V} {b : Bool} (h : Dq K F v (.bool b)) : v = .bl b := by cases h; rfl
theorem Dq.str_inv {v : V} {x : Str} (h : Dq K F v (.str x)) : v = .str x := by cases h; rfl
theorem Dq.non_inv {v : V} (h : Dq K F v .none) : v = .non := by cases h; rfl
theorem Dq.lst_inv {v : V} {ds : List D} (h : Dq K F v (.list ds)) : ∃ a vs, v = .ref a ∧ F a = some (.lst vs) ∧ DqAll K F vs ds := by
  cases h with
  | lst h a => exact ⟨_, _, rfl, h, a⟩
theorem Dq.tup_inv {v : V} {ds : List D} (h : Dq K F v (.tuple ds)) : ∃ a vs, v = .ref a ∧ TD K F a vs ∧ DqAll K F vs ds := by
  cases h with
  | tup h a => exact ⟨_, _, rfl, h, a⟩
end

/-! ### owners -/
inductive Ow where
  | src | sl (i : Nat)
  deriving DecidableEq
abbrev Om := Addr → Option Ow
structure Wk (F : Hp) (O : Om) (H : Hp) : Prop where
  fh : Same F H
  fo : ∀ a, O a ≠ none → F a = none
  oh : ∀ a, O a ≠ none → H a ≠ none

/-! ### the drawn source of the laws -/
structure Src where
  cells : List Int
  left : Int
  mixed : Int
  turn : Int
  deriving DecidableEq
def Src.kvs (s : Src) (c : Addr) : List (Key × V) := [(.inr "cells", .ref c), (.inr "left", .int s.left), (.inr "mixed", .int s.mixed), (.inr "turn", .int s.turn)]
abbrev Pc := Option (Addr × Addr)
def SrcOk (O : Om) (H : Hp) : Pc → Src → Prop
  | none, _ => ∀ a, O a ≠ some .src
  | some (p, c), s => O p = some .src ∧ O c = some .src ∧ H p = some (.dK (s.kvs c)) ∧ H c = some (.lst (s.cells.map V.int)) ∧ ∀ a, O a = some .src → a = p ∨ a = c

/-! ### slots -/
inductive Sl where
  | un | fz (d : D) | ow (ds : List D) | o2 (dss : List (List D)) | sr
abbrev Rho := List Sl
inductive All2 {α β : Type} (R : α → β → Prop) : List α → List β → Prop
  | nil : All2 R [] []
  | cons {a b as bs} : R a b → All2 R as bs → All2 R (a :: as) (b :: bs)
theorem All2.imp {α β : Type} {R S : α → β → Prop} (h : ∀ a b, R a b → S a b) : ∀ {as : List α} {bs : List β}, All2 R as bs → All2 S as bs
  | _, _, .nil => .nil
  | _, _, .cons a b => .cons (h _ _ a) (All2.imp h b)
theorem All2.len {α β : Type} {R : α → β → Prop} : ∀ {as : List α} {bs : List β}, All2 R as bs → as.length = bs.length
  | _, _, .nil => rfl
  | _, _, .cons _ b => by simp [All2.len b]
theorem All2.impMem {α β : Type} {R S : α → β → Prop} : ∀ {as : List α} {bs : List β}, (∀ a b, a ∈ as → R a b → S a b) → All2 R as bs → All2 S as bs
  | _, _, _, .nil => .nil
  | _, _, h, .cons a b => .cons (h _ _ (List.mem_cons_self) a) (All2.impMem (fun x y hx => h x y (List.mem_cons_of_mem _ hx)) b)

def SlOk (K : PySem.W.Frag) (F : Hp) (O : Om) (H : Hp) (pc : Pc) (i : Nat) (v : Option V) : Sl → Prop
  | .un => True
  | .fz d => ∃ x, v = some x ∧ Dq K F x d
  | .ow ds => ∃ q vs, v = some (.ref q) ∧ O q = some (.sl i) ∧ H q = some (.lst vs) ∧ DqAll K F vs ds
  | .o2 dss => ∃ q qs, v = some (.ref q) ∧ O q = some (.sl i) ∧ H q = some (.lst (qs.map V.ref)) ∧ q ∉ qs ∧ qs.Nodup ∧ All2 (fun a ds => O a = some (.sl i) ∧ ∃ vs, H a = some (.lst vs) ∧ DqAll K F vs ds) qs dss
  | .sr => ∃ p c, v = some (.ref p) ∧ pc = some (p, c)
structure EnvOk (K : PySem.W.Frag) (F : Hp) (O : Om) (H : Hp) (pc : Pc) (σ : L2.St) (ρ : Rho) : Prop where
  len : σ.length = ρ.length
  at_ : ∀ i sl, ρ[i]? = some sl → ∃ v, σ[i]? = some v ∧ SlOk K F O H pc i v sl
structure Stt (K : PySem.W.Frag) (F : Hp) (O : Om) (H : Hp) (pc : Pc) (σ : L2.St) (ρ : Rho) (s : Src) : Prop where
  wk : Wk F O H
  env : EnvOk K F O H pc σ ρ
  src : SrcOk O H pc s

/-! ### an expression's step -/
structure Ny (O : Om) (F H F' H' : Hp) : Prop where
  ff : Same F F'
  fh : Same F' H'
  own : ∀ a, O a ≠ none → O a ≠ some .src → H' a = H a
  unown : ∀ a o, H a = some o → O a = none → H' a = some o
  dom : ∀ a, H a ≠ none → H' a ≠ none
  new : ∀ a o, F' a = some o → F a = some o ∨ H a = none
section
variable {K : PySem.W.Frag} {F F' F'' H H' H'' : Hp} {O : Om} {pc : Pc} {σ : L2.St} {ρ : Rho} {s s' : Src}
theorem Ny.refl (w : Wk F O H) : Ny O F H F H := ⟨Same.refl _, w.fh, fun _ _ _ => rfl, fun _ _ h _ => h, fun _ h => h, fun _ _ h => .inl h⟩
theorem Ny.trans (a : Ny O F H F' H') (b : Ny O F' H' F'' H'') : Ny O F H F'' H'' where
  ff := a.ff.trans b.ff
  fh := b.fh
  own := fun x h1 h2 => (b.own x h1 h2).trans (a.own x h1 h2)
  unown := fun x o h1 h2 => b.unown x o (a.unown x o h1 h2) h2
  dom := fun x h => b.dom x (a.dom x h)
  new := fun x o h => by
    rcases b.new x o h with h | h
    · exact a.new x o h
    · refine .inr ?_
      cases q : H x with
      | none => rfl
      | some u => exact absurd h (a.dom x (by rw [q]; exact fun z => nomatch z))
theorem Ny.wk (n : Ny O F H F' H') (w : Wk F O H) : Wk F' O H' := ⟨n.fh, fun a h => by
  cases q : F' a with
  | none => rfl
  | some o =>
    rcases n.new a o q with z | z
    · rw [w.fo a h] at z; cases z
    · exact absurd z (w.oh a h), fun a h => n.dom a (w.oh a h)⟩
theorem SlOk.ny {i : Nat} {v : Option V} {sl : Sl} (n : Ny O F H F' H') (h : SlOk K F O H pc i v sl) : SlOk K F' O H' pc i v sl := by
  cases sl with
  | un => trivial
  | fz d =>
    obtain ⟨x, h1, h2⟩ := h
    exact ⟨x, h1, h2.mono n.ff⟩
  | ow ds =>
    obtain ⟨q, vs, h1, h2, h3, h4⟩ := h
    exact ⟨q, vs, h1, h2, by rw [n.own q (by rw [h2]; exact fun z => nomatch z) (by rw [h2]; exact fun z => nomatch z)]; exact h3, h4.mono n.ff⟩
  | o2 dss =>
    obtain ⟨q, qs, h1, h2, h3, h4, h5, h6⟩ := h
    refine ⟨q, qs, h1, h2, by rw [n.own q (by rw [h2]; exact fun z => nomatch z) (by rw [h2]; exact fun z => nomatch z)]; exact h3, h4, h5, h6.imp fun a ds ⟨e1, vs, e2, e3⟩ => ⟨e1, vs, ?_, e3.mono n.ff⟩⟩
    rw [n.own a (by rw [e1]; exact fun z => nomatch z) (by rw [e1]; exact fun z => nomatch z)]
    exact e2
  | sr => exact h
theorem EnvOk.ny (n : Ny O F H F' H') (e : EnvOk K F O H pc σ ρ) : EnvOk K F' O H' pc σ ρ :=
  ⟨e.len, fun i sl h => let ⟨v, h1, h2⟩ := e.at_ i sl h; ⟨v, h1, h2.ny n⟩⟩
theorem Stt.ny (n : Ny O F H F' H') (h : Stt K F O H pc σ ρ s) (h' : SrcOk O H' pc s') : Stt K F' O H' pc σ ρ s' := ⟨n.wk h.wk, h.env.ny n, h'⟩
/-- a pure step: the heap only grows -/
theorem Ny.pure (w : Wk F O H) (e : Same H H') (ff : Same F F') (fh : Same F' H') (new : ∀ a o, F' a = some o → F a = some o ∨ H a = none) : Ny O F H F' H' where
  ff := ff
  fh := fh
  own := fun a h _ => by
    cases q : H a with
    | none => exact absurd q (w.oh a h)
    | some o => exact e a o q
  unown := fun a o h _ => e a o h
  dom := fun a h => by
    cases q : H a with
    | none => exact absurd q h
    | some o => rw [e a o q]; exact fun z => nomatch z
  new := new
theorem SrcOk.same {w : Src} (e : Same H H') (h : SrcOk O H pc w) : SrcOk O H' pc w := by
  cases pc with
  | none => exact h
  | some pc =>
    obtain ⟨p, c⟩ := pc
    obtain ⟨h1, h2, h3, h4, h5⟩ := h
    exact ⟨h1, h2, e _ _ h3, e _ _ h4, h5⟩
theorem same_new {H : Hp} {p : Addr} {o : HO} (h : H p = none) : Same H (upd H p o) := fun b x e => by
  rw [upd_ne (ne_of_none e h)]
  exact e
/-- a new frozen object -/
theorem Ny.alloc {p : Addr} {o : HO} (w : Wk F O H) (h : H p = none) : Ny O F H (upd F p o) (upd H p o) := by
  have hF : F p = none := by
    cases q : F p with
    | none => rfl
    | some u => rw [w.fh _ _ q] at h; cases h
  refine .pure w (same_new h) (same_new hF) (fun a u e => ?_) fun a u e => ?_
  · by_cases ha : a = p
    · subst ha; rw [upd_same] at e ⊢; exact e
    · rw [upd_ne ha] at e ⊢; exact w.fh _ _ e
  · by_cases ha : a = p
    · subst ha; exact .inr h
    · rw [upd_ne ha] at e; exact .inl e
end

/-! ### the judgements -/
abbrev Y := Rho → Src → Option (D × Src)
abbrev Yl := Rho → Src → Option (List D × Src)
abbrev Yb := Rho → Src → Option (Bool × Src)
abbrev Yo := Rho → Src → Option (Option Int × Src)
def bO {α β : Type} (o : Option (α × Src)) (k : α → Src → Option β) : Option β := match o with
  | some (a, s) => k a s
  | none => none
theorem bO_some {α β : Type} {o : Option (α × Src)} {k : α → Src → Option β} {b : β} (h : bO o k = some b) : ∃ a s, o = some (a, s) ∧ k a s = some b := by
  cases o with
  | none => cases h
  | some p => exact ⟨p.1, p.2, rfl, h⟩
def mO {α β : Type} (o : Option α) (k : α → Option β) : Option β := match o with
  | some a => k a
  | none => none
theorem mO_some {α β : Type} {o : Option α} {k : α → Option β} {b : β} (h : mO o k = some b) : ∃ a, o = some a ∧ k a = some b := by
  cases o with
  | none => cases h
  | some p => exact ⟨p, rfl, h⟩
/-- an expression: its value's data -/
def SdY (K : PySem.W.Frag) (t : TE) (g : Y) : Prop := ∀ F O H pc σ ρ s d s', Stt K F O H pc σ ρ s → g ρ s = some (d, s') → ∀ Q : VK, (∀ v F' H', Ny O F H F' H' → SrcOk O H' pc s' → Dq K F' v d → Q v H') → t σ H Q
/-- an expression that makes a new list -/
def SdN (K : PySem.W.Frag) (t : TE) (g : Yl) : Prop := ∀ F O H pc σ ρ s ds s', Stt K F O H pc σ ρ s → g ρ s = some (ds, s') → ∀ Q : VK,
  (∀ p vs F' H', Ny O F H F' H' → SrcOk O H' pc s' → H p = none → F' p = none → H' p = some (.lst vs) → DqAll K F' vs ds → Q (.ref p) H') → t σ H Q
/-- arguments -/
def SdA (K : PySem.W.Frag) (t : TA) (g : Yl) : Prop := ∀ F O H pc σ ρ s ds s', Stt K F O H pc σ ρ s → g ρ s = some (ds, s') → ∀ Q : List V → Hp → Prop, (∀ vs F' H', Ny O F H F' H' → SrcOk O H' pc s' → DqAll K F' vs ds → Q vs H') → t σ H Q
/-- a test -/
def SdT (K : PySem.W.Frag) (t : TT) (g : Yb) : Prop := ∀ F O H pc σ ρ s b s', Stt K F O H pc σ ρ s → g ρ s = some (b, s') → ∀ Q : Bool → Hp → Prop, (∀ F' H', Ny O F H F' H' → SrcOk O H' pc s' → Q b H') → t σ H Q
/-- a part of a slice -/
def SdO (K : PySem.W.Frag) (t : TO) (g : Yo) : Prop := ∀ F O H pc σ ρ s b s', Stt K F O H pc σ ρ s → g ρ s = some (b, s') → ∀ Q : Option Int → Hp → Prop, (∀ F' H', Ny O F H F' H' → SrcOk O H' pc s' → Q b H') → t σ H Q

/-! ### values: an operation of two places, one, a call of a builtin -/
def Sd2 (K : PySem.W.Frag) (r : R2) (f : D → D → Option D) : Prop := ∀ F O H x y a b d, Wk F O H → Dq K F x a → Dq K F y b → f a b = some d → ∀ Q : VK,
  (∀ v F' H', Same H H' → Same F F' → Same F' H' → (∀ a o, F' a = some o → F a = some o ∨ H a = none) → Dq K F' v d → Q v H') → r x y H Q
def Sd1 (K : PySem.W.Frag) (r : V → Hp → VK → Prop) (f : D → Option D) : Prop := ∀ F O H x a d, Wk F O H → Dq K F x a → f a = some d → ∀ Q : VK,
  (∀ v F' H', Same H H' → Same F F' → Same F' H' → (∀ a o, F' a = some o → F a = some o ∨ H a = none) → Dq K F' v d → Q v H') → r x H Q
def SdC (K : PySem.W.Frag) (r : List V → Hp → VK → Prop) (f : List D → Option D) : Prop := ∀ F O H xs as d, Wk F O H → DqAll K F xs as → f as = some d → ∀ Q : VK,
  (∀ v F' H', Same H H' → Same F F' → Same F' H' → (∀ a o, F' a = some o → F a = some o ∨ H a = none) → Dq K F' v d → Q v H') → r xs H Q
end DL

set_option Elab.async false
set_option linter.all false
set_option maxRecDepth 100000
set_option maxHeartbeats 4000000
/-! DL2: expressions. -/
namespace DL
open PySem PySem.Spec PyProof.Rows L2

def lim : Nat := 100000
theorem lim_le {n : Nat} (h : n ≤ lim) : n ≤ sizeLine := Nat.le_trans h (by decide)
theorem lim_lt {n : Nat} (h : n < lim) : n < sizeLine := Nat.lt_of_lt_of_le h (by decide)

section
variable {K : PySem.W.Frag} {ta tb tc te : TE} {ga gb gc ge : Y}

/-! ### names, constants -/
def varY (i : Nat) : Y := fun ρ s => match ρ[i]? with
  | some (.fz d) => some (d, s)
  | _ => none
theorem sd_var (i : Nat) : SdY K (tVar i) (varY i) := by
  intro F O H pc σ ρ s d s' st h Q q
  unfold varY at h
  split at h
  · rename_i d' e
    cases h
    obtain ⟨v, h1, x, h2, h3⟩ := st.env.at_ i _ e
    subst h2
    exact ⟨x, h1, q x F H (Ny.refl st.wk) st.src h3⟩
  · cases h
def cY (d : D) : Y := fun _ s => some (d, s)
theorem sd_c {v : V} {d : D} (h : ∀ F, Dq K F v d) : SdY K (tC v) (cY d) := by
  intro F O H pc σ ρ s d' s' st e Q q
  cases e
  exact q v F H (Ny.refl st.wk) st.src (h F)
theorem sd_int (i : Int) : SdY K (tC (.int i)) (cY (.int i)) := sd_c fun _ => .int i
theorem sd_bl (b : Bool) : SdY K (tC (.bl b)) (cY (.bool b)) := sd_c fun _ => .bl b
theorem sd_non : SdY K (tC .non) (cY .none) := sd_c fun _ => .non
theorem sd_str (x : Str) : SdY K (tC (.str x)) (cY (.str x)) := sd_c fun _ => .str x

/-! ### operations -/
def y1 (f : D → Option D) (a : Y) : Y := fun ρ s => bO (a ρ s) fun x s1 => mO (f x) fun d => some (d, s1)
def y2 (f : D → D → Option D) (a b : Y) : Y := fun ρ s => bO (a ρ s) fun x s1 => bO (b ρ s1) fun y s2 => mO (f x y) fun d => some (d, s2)
def yC (f : List D → Option D) (a : Yl) : Y := fun ρ s => bO (a ρ s) fun xs s1 => mO (f xs) fun d => some (d, s1)
theorem sd_1 {r : V → Hp → VK → Prop} {f : D → Option D} (hr : Sd1 K r f) (ha : SdY K ta ga) : SdY K (tUn r ta) (y1 f ga) := by
  intro F O H pc σ ρ s d s' st h Q q
  obtain ⟨x, s1, e1, h⟩ := bO_some h
  obtain ⟨z, e2, h⟩ := mO_some h
  cases h
  refine ha F O H pc σ ρ s x _ st e1 _ fun v F1 H1 n1 sr1 d1 => ?_
  refine hr F1 O H1 v x d (n1.wk st.wk) d1 e2 Q fun v' F2 H2 a b c e f => ?_
  exact q v' F2 H2 (n1.trans (Ny.pure (n1.wk st.wk) a b c e)) (sr1.same a) f
theorem sd_2 {r : R2} {f : D → D → Option D} (hr : Sd2 K r f) (ha : SdY K ta ga) (hb : SdY K tb gb) : SdY K (tOp r ta tb) (y2 f ga gb) := by
  intro F O H pc σ ρ s d s' st h Q q
  obtain ⟨x, s1, e1, h⟩ := bO_some h
  obtain ⟨y, s2, e2, h⟩ := bO_some h
  obtain ⟨z, e3, h⟩ := mO_some h
  cases h
  refine ha F O H pc σ ρ s x s1 st e1 _ fun v F1 H1 n1 sr1 d1 => ?_
  refine hb F1 O H1 pc σ ρ s1 y _ (st.ny n1 sr1) e2 _ fun u F2 H2 n2 sr2 d2 => ?_
  refine hr F2 O H2 v u x y d (n2.wk (n1.wk st.wk)) (d1.mono n2.ff) d2 e3 Q fun v' F3 H3 a b c e f => ?_
  exact q v' F3 H3 ((n1.trans n2).trans (Ny.pure (n2.wk (n1.wk st.wk)) a b c e)) (sr2.same a) f
theorem sd_C {r : List V → Hp → VK → Prop} {f : List D → Option D} {t : TA} {g : Yl} (hr : SdC K r f) (ha : SdA K t g) : SdY K (tCB r t) (yC f g) := by
  intro F O H pc σ ρ s d s' st h Q q
  obtain ⟨x, s1, e1, h⟩ := bO_some h
  obtain ⟨z, e2, h⟩ := mO_some h
  cases h
  refine ha F O H pc σ ρ s x _ st e1 _ fun v F1 H1 n1 sr1 d1 => ?_
  refine hr F1 O H1 v x d (n1.wk st.wk) d1 e2 Q fun v' F2 H2 a b c e f => ?_
  exact q v' F2 H2 (n1.trans (Ny.pure (n1.wk st.wk) a b c e)) (sr1.same a) f

/-! ### arguments, displays -/
def aNil : Yl := fun _ s => some ([], s)
def aCons (a : Y) (r : Yl) : Yl := fun ρ s => bO (a ρ s) fun x s1 => bO (r ρ s1) fun xs s2 => some (x :: xs, s2)
theorem sa_nil : SdA K tNil aNil := by
  intro F O H pc σ ρ s d s' st h Q q
  cases h
  exact q [] F H (Ny.refl st.wk) st.src .nil
theorem sa_cons {t : TA} {g : Yl} (ha : SdY K ta ga) (hr : SdA K t g) : SdA K (tCons ta t) (aCons ga g) := by
  intro F O H pc σ ρ s d s' st h Q q
  obtain ⟨x, s1, e1, h⟩ := bO_some h
  obtain ⟨y, s2, e2, h⟩ := bO_some h
  cases h
  refine ha F O H pc σ ρ s x s1 st e1 _ fun v F1 H1 n1 sr1 d1 => ?_
  refine hr F1 O H1 pc σ ρ s1 y _ (st.ny n1 sr1) e2 _ fun u F2 H2 n2 sr2 d2 => ?_
  exact q (v :: u) F2 H2 (n1.trans n2) sr2 (.cons (d1.mono n2.ff) d2)
def tupY (g : Yl) : Y := fun ρ s => bO (g ρ s) fun xs s1 => if xs.length ≤ lim then some (.tuple xs, s1) else none
def lstY (g : Yl) : Yl := fun ρ s => bO (g ρ s) fun xs s1 => if xs.length ≤ lim then some (xs, s1) else none
theorem sd_tup {t : TA} {g : Yl} (ha : SdA K t g) : SdY K (tTup0 t) (tupY g) := by
  intro F O H pc σ ρ s d s' st h Q q
  obtain ⟨x, s1, e1, h⟩ := bO_some h
  split at h
  · rename_i hl
    cases h
    refine ha F O H pc σ ρ s x _ st e1 _ fun v F1 H1 n1 sr1 d1 => ⟨lim_le (by rw [d1.len]; exact hl), fun p its hp => ?_⟩
    have al := Ny.alloc (o := .frz (tup0 its) (.tup v)) (n1.wk st.wk) hp
    exact q (.ref p) _ _ (n1.trans al) (sr1.same (same_new hp)) (.tup (.inl ⟨its, upd_same⟩) (d1.mono al.ff))
  · cases h
theorem sn_lst {t : TA} {g : Yl} (ha : SdA K t g) : SdN K (tLst t) (lstY g) := by
  intro F O H pc σ ρ s d s' st h Q q
  obtain ⟨x, s1, e1, h⟩ := bO_some h
  split at h
  · rename_i hl
    cases h
    refine ha F O H pc σ ρ s d _ st e1 _ fun v F1 H1 n1 sr1 d1 => ⟨lim_le (by rw [d1.len]; exact hl), fun p hp => ?_⟩
    have hF : F1 p = none := by
      cases z : F1 p with
      | none => rfl
      | some u => rw [n1.fh _ _ z] at hp; cases hp
    have w1 := n1.wk st.wk
    refine q p v F1 (upd H1 p (.lst v)) (n1.trans (Ny.pure w1 (same_new hp) (Same.refl _) (w1.fh.trans (same_new hp)) fun _ _ h => .inl h)) (sr1.same (same_new hp)) ?_ hF upd_same d1
    cases z : H p with
    | none => rfl
    | some u => exact absurd hp (n1.dom p (by rw [z]; exact fun z => nomatch z))
  · cases h
/-- a new list as a value that no one changes -/
def frY (g : Yl) : Y := fun ρ s => bO (g ρ s) fun xs s1 => some (.list xs, s1)
theorem sd_fr {t : TE} {g : Yl} (ha : SdN K t g) : SdY K t (frY g) := by
  intro F O H pc σ ρ s d s' st h Q q
  obtain ⟨x, s1, e1, h⟩ := bO_some h
  cases h
  refine ha F O H pc σ ρ s x _ st e1 _ fun p v F1 H1 n1 sr1 hp hF hH d1 => ?_
  have e : Same F1 (upd F1 p (.lst v)) := same_new hF
  refine q (.ref p) (upd F1 p (.lst v)) H1 ⟨n1.ff.trans e, fun a o z => ?_, n1.own, n1.unown, n1.dom, fun a o z => ?_⟩ sr1 (.lst upd_same (d1.mono e))
  · by_cases ha : a = p
    · subst ha; rw [upd_same] at z; cases z; exact hH
    · rw [upd_ne ha] at z; exact n1.fh _ _ z
  · by_cases ha : a = p
    · subst ha; exact .inr hp
    · rw [upd_ne ha] at z; exact n1.new _ _ z

/-! ### tests -/
def bT (g : Y) : Yb := fun ρ s => bO (g ρ s) fun d s1 => match d with
  | .bool b => some (b, s1)
  | _ => none
theorem st_B (h : SdY K te ge) : SdT K (tB te) (bT ge) := by
  intro F O H pc σ ρ s d s' st e Q q
  obtain ⟨x, s1, e1, e⟩ := bO_some e
  refine h F O H pc σ ρ s x s1 st e1 _ fun v F1 H1 n1 sr1 d1 => ?_
  split at e
  · cases e
    exact ⟨_, d1.bl_inv, q F1 H1 n1 sr1⟩
  · cases e
theorem st_Test (h : SdY K te ge) : SdT K (tTest te) (bT ge) := st_B h
variable {tt tu : TT} {gt gu : Yb}
def andT (a b : Yb) : Yb := fun ρ s => bO (a ρ s) fun x s1 => if x = true then b ρ s1 else some (false, s1)
def orT (a b : Yb) : Yb := fun ρ s => bO (a ρ s) fun x s1 => if x = true then some (true, s1) else b ρ s1
def notT (a : Yb) : Yb := fun ρ s => bO (a ρ s) fun x s1 => some (!x, s1)
theorem st_and (h1 : SdT K tt gt) (h2 : SdT K tu gu) : SdT K (tAnd tt tu) (andT gt gu) := by
  intro F O H pc σ ρ s d s' st e Q q
  obtain ⟨x, s1, e1, e⟩ := bO_some e
  refine h1 F O H pc σ ρ s x s1 st e1 _ fun F1 H1 n1 sr1 => ?_
  cases x with
  | true =>
    rw [if_pos rfl] at e ⊢
    exact h2 F1 O H1 pc σ ρ s1 d s' (st.ny n1 sr1) e Q fun F2 H2 n2 sr2 => q F2 H2 (n1.trans n2) sr2
  | false =>
    rw [if_neg Bool.false_ne_true] at e ⊢
    cases e
    exact q F1 H1 n1 sr1
theorem st_or (h1 : SdT K tt gt) (h2 : SdT K tu gu) : SdT K (tOr tt tu) (orT gt gu) := by
  intro F O H pc σ ρ s d s' st e Q q
  obtain ⟨x, s1, e1, e⟩ := bO_some e
  refine h1 F O H pc σ ρ s x s1 st e1 _ fun F1 H1 n1 sr1 => ?_
  cases x with
  | false =>
    rw [if_neg Bool.false_ne_true] at e ⊢
    exact h2 F1 O H1 pc σ ρ s1 d s' (st.ny n1 sr1) e Q fun F2 H2 n2 sr2 => q F2 H2 (n1.trans n2) sr2
  | true =>
    rw [if_pos rfl] at e ⊢
    cases e
    exact q F1 H1 n1 sr1
theorem st_not (h1 : SdT K tt gt) : SdT K (tNot tt) (notT gt) := by
  intro F O H pc σ ρ s d s' st e Q q
  obtain ⟨x, s1, e1, e⟩ := bO_some e
  cases e
  exact h1 F O H pc σ ρ s x _ st e1 _ fun F1 H1 n1 sr1 => q F1 H1 n1 sr1

/-! ### values by tests -/
def ifY (t : Yb) (a b : Y) : Y := fun ρ s => bO (t ρ s) fun x s1 => if x = true then a ρ s1 else b ρ s1
theorem sd_if (h : SdT K tt gt) (ha : SdY K ta ga) (hb : SdY K tb gb) : SdY K (tIf tt ta tb) (ifY gt ga gb) := by
  intro F O H pc σ ρ s d s' st e Q q
  obtain ⟨x, s1, e1, e⟩ := bO_some e
  refine h F O H pc σ ρ s x s1 st e1 _ fun F1 H1 n1 sr1 => ?_
  cases x with
  | true =>
    rw [if_pos rfl] at e ⊢
    exact ha F1 O H1 pc σ ρ s1 d s' (st.ny n1 sr1) e Q fun v F2 H2 n2 sr2 => q v F2 H2 (n1.trans n2) sr2
  | false =>
    rw [if_neg Bool.false_ne_true] at e ⊢
    exact hb F1 O H1 pc σ ρ s1 d s' (st.ny n1 sr1) e Q fun v F2 H2 n2 sr2 => q v F2 H2 (n1.trans n2) sr2
def andY (a b : Y) : Y := fun ρ s => bO (a ρ s) fun x s1 => match x with
  | .bool true => b ρ s1
  | .bool false => some (.bool false, s1)
  | _ => none
def orY (a b : Y) : Y := fun ρ s => bO (a ρ s) fun x s1 => match x with
  | .bool false => b ρ s1
  | .bool true => some (.bool true, s1)
  | _ => none
def notD : D → Option D
  | .bool b => some (.bool (!b))
  | _ => none
def notY (a : Y) : Y := y1 notD a
theorem sd_and (ha : SdY K ta ga) (hb : SdY K tb gb) : SdY K (tAndV ta tb) (andY ga gb) := by
  intro F O H pc σ ρ s d s' st e Q q
  obtain ⟨x, s1, e1, e⟩ := bO_some e
  refine ha F O H pc σ ρ s x s1 st e1 _ fun v F1 H1 n1 sr1 d1 => ?_
  split at e
  · refine ⟨true, d1.bl_inv, ?_⟩
    rw [if_pos rfl]
    exact hb F1 O H1 pc σ ρ s1 d s' (st.ny n1 sr1) e Q fun v F2 H2 n2 sr2 => q v F2 H2 (n1.trans n2) sr2
  · cases e
    refine ⟨false, d1.bl_inv, ?_⟩
    rw [if_neg Bool.false_ne_true]
    exact q _ F1 H1 n1 sr1 (.bl false)
  · cases e
theorem sd_or (ha : SdY K ta ga) (hb : SdY K tb gb) : SdY K (tOrV ta tb) (orY ga gb) := by
  intro F O H pc σ ρ s d s' st e Q q
  obtain ⟨x, s1, e1, e⟩ := bO_some e
  refine ha F O H pc σ ρ s x s1 st e1 _ fun v F1 H1 n1 sr1 d1 => ?_
  split at e
  · refine ⟨false, d1.bl_inv, ?_⟩
    rw [if_neg Bool.false_ne_true]
    exact hb F1 O H1 pc σ ρ s1 d s' (st.ny n1 sr1) e Q fun v F2 H2 n2 sr2 => q v F2 H2 (n1.trans n2) sr2
  · cases e
    refine ⟨true, d1.bl_inv, ?_⟩
    rw [if_pos rfl]
    exact q _ F1 H1 n1 sr1 (.bl true)
  · cases e
theorem sd_not (ha : SdY K ta ga) : SdY K (tNotV ta) (notY ga) := by
  intro F O H pc σ ρ s d s' st e Q q
  obtain ⟨x, s1, e1, e⟩ := bO_some e
  obtain ⟨z, e2, e⟩ := mO_some e
  cases e
  refine ha F O H pc σ ρ s x _ st e1 _ fun v F1 H1 n1 sr1 d1 => ?_
  unfold notD at e2
  split at e2
  · cases e2
    exact ⟨_, d1.bl_inv, q _ F1 H1 n1 sr1 (.bl _)⟩
  · cases e2

/-! ### slices -/
def SdSl (K : PySem.W.Frag) (r : V → Option Int → Option Int → Hp → VK → Prop) (f : D → Option Int → Option Int → Option D) : Prop := ∀ F O H x lo hi a d, Wk F O H → Dq K F x a → f a lo hi = some d → ∀ Q : VK,
  (∀ v F' H', Same H H' → Same F F' → Same F' H' → (∀ a o, F' a = some o → F a = some o ∨ H a = none) → Dq K F' v d → Q v H') → r x lo hi H Q
def oNo : Yo := fun _ s => some (none, s)
def oYes (g : Y) : Yo := fun ρ s => bO (g ρ s) fun d s1 => match d with
  | .int i => some (some i, s1)
  | _ => none
theorem so_no : SdO K tNoPart oNo := by
  intro F O H pc σ ρ s d s' st e Q q
  cases e
  exact q F H (Ny.refl st.wk) st.src
theorem so_yes (h : SdY K te ge) : SdO K (tPart te) (oYes ge) := by
  intro F O H pc σ ρ s d s' st e Q q
  obtain ⟨x, s1, e1, e⟩ := bO_some e
  refine h F O H pc σ ρ s x s1 st e1 _ fun v F1 H1 n1 sr1 d1 => ?_
  split at e
  · cases e
    exact ⟨_, d1.int_inv, q F1 H1 n1 sr1⟩
  · cases e
def slY (f : D → Option Int → Option Int → Option D) (a : Y) (l u : Yo) : Y := fun ρ s => bO (a ρ s) fun x s1 => bO (l ρ s1) fun lo s2 => bO (u ρ s2) fun hi s3 => mO (f x lo hi) fun d => some (d, s3)
theorem sd_sl {r : V → Option Int → Option Int → Hp → VK → Prop} {f : D → Option Int → Option Int → Option D} {tl th : TO} {gl gh : Yo} (hr : SdSl K r f) (ha : SdY K te ge) (hl : SdO K tl gl) (hh : SdO K th gh) : SdY K (tSl r te tl th) (slY f ge gl gh) := by
  intro F O H pc σ ρ s d s' st h Q q
  obtain ⟨x, s1, e1, h⟩ := bO_some h
  obtain ⟨lo, s2, e2, h⟩ := bO_some h
  obtain ⟨hi, s3, e3, h⟩ := bO_some h
  obtain ⟨z, e4, h⟩ := mO_some h
  cases h
  refine ha F O H pc σ ρ s x s1 st e1 _ fun v F1 H1 n1 sr1 d1 => ?_
  have st1 := st.ny n1 sr1
  refine hl F1 O H1 pc σ ρ s1 lo s2 st1 e2 _ fun F2 H2 n2 sr2 => ?_
  have st2 := st1.ny n2 sr2
  refine hh F2 O H2 pc σ ρ s2 hi _ st2 e3 _ fun F3 H3 n3 sr3 => ?_
  refine hr F3 O H3 v lo hi x d (n3.wk st2.wk) ((d1.mono n2.ff).mono n3.ff) e4 Q fun v' F4 H4 a b c e f => ?_
  exact q v' F4 H4 (((n1.trans n2).trans n3).trans (Ny.pure (n3.wk st2.wk) a b c e)) (sr3.same a) f

/-! ### own lists are looked at -/
def scalD : D → Bool
  | .none => true
  | .bool _ => true
  | .int _ => true
  | .str _ => true
  | _ => false
theorem Dq.scal {F F' : Hp} {v : V} {d : D} (h : Dq K F v d) (hs : scalD d = true) : Dq K F' v d := by
  cases h with
  | non => exact .non
  | bl b => exact .bl b
  | int i => exact .int i
  | str x => exact .str x
  | lst _ _ => cases hs
  | tup _ _ => cases hs
def viewS : Sl → Sl
  | .ow ds => .fz (.list ds)
  | .o2 dss => .fz (.list (dss.map .list))
  | x => x
def vwY (g : Y) : Y := fun ρ s => bO (g (ρ.map viewS) s) fun d s1 => if scalD d = true then some (d, s1) else none
def isSl : Option Ow → Bool
  | some (.sl _) => true
  | _ => false
def upF (F : Hp) (O : Om) (H : Hp) : Hp := fun a => if isSl (O a) = true then H a else F a
def upO (O : Om) : Om := fun a => if isSl (O a) = true then none else O a
theorem view_o2 {F : Hp} {H : Hp} {O : Om} {i : Nat} {F2 : Hp} (e : Same F F2) (hF : ∀ a o, O a = some (.sl i) → H a = some o → F2 a = some o) : ∀ {qs : List Addr} {dss : List (List D)},
    All2 (fun a ds => O a = some (.sl i) ∧ ∃ vs, H a = some (.lst vs) ∧ DqAll K F vs ds) qs dss → DqAll K F2 (qs.map V.ref) (dss.map .list)
  | _, _, .nil => .nil
  | _, _, .cons ⟨h1, vs, h2, h3⟩ b => .cons (.lst (hF _ _ h1 h2) (h3.mono e)) (view_o2 e hF b)
theorem up_same {F H : Hp} {O : Om} (w : Wk F O H) : Same F (upF F O H) := fun a o e => by
  unfold upF
  rw [if_neg]
  · exact e
  · intro z
    have : O a ≠ none := fun q => by rw [q] at z; cases z
    rw [w.fo a this] at e; cases e
theorem up_wk {F H : Hp} {O : Om} (w : Wk F O H) : Wk (upF F O H) (upO O) H := by
  refine ⟨fun a o e => ?_, fun a h => ?_, fun a h => ?_⟩
  · unfold upF at e
    split at e
    · exact e
    · exact w.fh _ _ e
  · unfold upO at h
    split at h
    · exact absurd rfl h
    · rename_i z
      unfold upF
      rw [if_neg z]
      exact w.fo a h
  · unfold upO at h
    split at h
    · exact absurd rfl h
    · exact w.oh a h
theorem isSl_of {O : Om} {a : Addr} {i : Nat} (h : O a = some (.sl i)) : isSl (O a) = true := by rw [h]; rfl
theorem up_env {F H : Hp} {O : Om} {pc : Pc} {σ : L2.St} {ρ : Rho} (w : Wk F O H) (e : EnvOk K F O H pc σ ρ) : EnvOk K (upF F O H) (upO O) H pc σ (ρ.map viewS) := by
  refine ⟨by rw [List.length_map]; exact e.len, fun i sl h => ?_⟩
  rw [List.getElem?_map] at h
  cases z : ρ[i]? with
  | none => rw [z] at h; cases h
  | some u =>
    rw [z] at h
    cases h
    obtain ⟨v, h1, h2⟩ := e.at_ i u z
    refine ⟨v, h1, ?_⟩
    cases u with
    | un => trivial
    | fz d =>
      obtain ⟨x, h3, h4⟩ := h2
      exact ⟨x, h3, h4.mono (up_same w)⟩
    | ow ds =>
      obtain ⟨q, vs, h3, h4, h5, h6⟩ := h2
      refine ⟨_, h3, .lst (vs := vs) ?_ (h6.mono (up_same w))⟩
      unfold upF
      rw [if_pos (isSl_of h4)]
      exact h5
    | o2 dss =>
      obtain ⟨q, qs, h3, h4, h5, h6, h7, h8⟩ := h2
      refine ⟨_, h3, .lst (vs := qs.map V.ref) ?_ (view_o2 (up_same w) (fun a o z1 z2 => ?_) h8)⟩
      · unfold upF
        rw [if_pos (isSl_of h4)]
        exact h5
      · unfold upF
        rw [if_pos (isSl_of z1)]
        exact z2
    | sr => exact h2
theorem up_src {H : Hp} {O : Om} {pc : Pc} {s : Src} : SrcOk (upO O) H pc s ↔ SrcOk O H pc s := by
  have e : ∀ a, upO O a = some .src ↔ O a = some .src := fun a => by
    unfold upO
    constructor
    · intro h
      split at h
      · cases h
      · exact h
    · intro h
      rw [if_neg (by rw [h]; exact fun z => nomatch z)]
      exact h
  cases pc with
  | none => exact ⟨fun h a z => h a ((e a).mpr z), fun h a z => h a ((e a).mp z)⟩
  | some pc =>
    obtain ⟨p, c⟩ := pc
    constructor
    · rintro ⟨h1, h2, h3, h4, h5⟩
      exact ⟨(e _).mp h1, (e _).mp h2, h3, h4, fun a z => h5 a ((e a).mpr z)⟩
    · rintro ⟨h1, h2, h3, h4, h5⟩
      exact ⟨(e _).mpr h1, (e _).mpr h2, h3, h4, fun a z => h5 a ((e a).mp z)⟩
/-- back from the looked-at own lists -/
theorem up_back {F H F' H' : Hp} {O : Om} (w : Wk F O H) (n : Ny (upO O) (upF F O H) H F' H') : Ny O F H (fun a => if isSl (O a) = true then none else F' a) H' where
  ff := fun a o e => by
    have h := n.ff a o (up_same w a o e)
    show (if isSl (O a) = true then none else F' a) = some o
    rw [if_neg]
    · exact h
    · intro z
      have : O a ≠ none := fun q => by rw [q] at z; cases z
      rw [w.fo a this] at e; cases e
  fh := fun a o e => by
    have e : (if isSl (O a) = true then none else F' a) = some o := e
    split at e
    · cases e
    · exact n.fh _ _ e
  own := fun a h1 h2 => by
    have z : isSl (O a) = true := by
      cases q : O a with
      | none => exact absurd q h1
      | some u =>
        cases u with
        | src => exact absurd q h2
        | sl i => rfl
    have hn : upO O a = none := by unfold upO; rw [if_pos z]
    cases q : H a with
    | none => exact absurd q (w.oh a h1)
    | some o => exact n.unown a o q hn
  unown := fun a o h1 h2 => n.unown a o h1 (by unfold upO; rw [h2]; rfl)
  dom := n.dom
  new := fun a o e => by
    have e : (if isSl (O a) = true then none else F' a) = some o := e
    split at e
    · cases e
    · rename_i z
      rcases n.new a o e with h | h
      · unfold upF at h
        rw [if_neg z] at h
        exact .inl h
      · exact .inr h
theorem sd_vw {t : TE} {g : Y} (h : SdY K t g) : SdY K t (vwY g) := by
  intro F O H pc σ ρ s d s' st e Q q
  obtain ⟨x, s1, e1, e⟩ := bO_some e
  split at e
  · rename_i hs
    cases e
    refine h (upF F O H) (upO O) H pc σ _ s d _ ⟨up_wk st.wk, up_env st.wk st.env, up_src.mpr st.src⟩ e1 Q fun v F' H' n sr d1 => ?_
    exact q v _ H' (up_back st.wk n) (up_src.mp sr) (d1.scal hs)
  · cases e
def vwT (g : Yb) : Yb := fun ρ s => g (ρ.map viewS) s
theorem st_vw {t : TT} {g : Yb} (h : SdT K t g) : SdT K t (vwT g) := by
  intro F O H pc σ ρ s d s' st e Q q
  refine h (upF F O H) (upO O) H pc σ _ s d _ ⟨up_wk st.wk, up_env st.wk st.env, up_src.mpr st.src⟩ e Q fun F' H' n sr => ?_
  exact q _ H' (up_back st.wk n) (up_src.mp sr)
/-- x[e], x an own list -/
def oixY (i : Nat) (e : Y) : Y := fun ρ s => bO (e ρ s) fun k s1 => match ρ[i]?, k with
  | some (.ow ds), .int n => mO (atI ds n) fun d => some (d, s1)
  | _, _ => none
theorem atI_q {F : Hp} {vs : List V} {ds : List D} {n : Int} {d : D} (h : DqAll K F vs ds) (e : atI ds n = some d) : ∃ v, atI vs n = some v ∧ Dq K F v d := by
  unfold atI at e ⊢
  rw [h.len]
  cases z : ixN ds.length n with
  | none => rw [z] at e; cases e
  | some j =>
    rw [z] at e
    exact h.get e
theorem sd_oix {i : Nat} (h : SdY K te ge) : SdY K (tOp (rIxL K) (tVar i) te) (oixY i ge) := by
  intro F O H pc σ ρ s d s' st e Q q
  obtain ⟨k, s1, e1, e⟩ := bO_some e
  split at e
  · rename_i ds n er
    obtain ⟨z, e2, e⟩ := mO_some e
    cases e
    obtain ⟨v, h1, a, vs, rfl, h3, h4, h5⟩ := st.env.at_ i _ er
    refine ⟨.ref a, h1, ?_⟩
    refine h F O H pc σ ρ s _ _ st e1 _ fun v F1 H1 n1 sr1 d1 => ?_
    obtain ⟨x, e3, d3⟩ := atI_q h5 e2
    refine ⟨a, vs, n, x, rfl, d1.int_inv, SqL.of ?_, e3, q x F1 H1 n1 sr1 (d3.mono n1.ff)⟩
    rw [n1.own a (by rw [h3]; exact fun z => nomatch z) (by rw [h3]; exact fun z => nomatch z)]
    exact h4
  · cases e
end
end DL

set_option Elab.async false
set_option linter.all false
set_option maxRecDepth 100000
set_option maxHeartbeats 4000000
/-! DL3: what operations and builtins do with data. -/
namespace DL
open PySem PySem.Spec PyProof.Rows L2

abbrev QK (K : PySem.W.Frag) (F H : Hp) (Q : VK) (z : D) : Prop :=
  ∀ v F' H', Same H H' → Same F F' → Same F' H' → (∀ a o, F' a = some o → F a = some o ∨ H a = none) → Dq K F' v z → Q v H'
section
variable {K : PySem.W.Frag} {F H : Hp} {O : Om} {Q : VK} {z : D} {v : V} {vs : List V} {ds : List D} {p : Addr}
theorem fin0 (w : Wk F O H) (q : QK K F H Q z) (d : Dq K F v z) : Q v H := q v F H (Same.refl _) (Same.refl _) w.fh (fun _ _ h => .inl h) d
theorem Wk.nF (w : Wk F O H) (hp : H p = none) : F p = none := by
  cases z : F p with
  | none => rfl
  | some u => rw [w.fh _ _ z] at hp; cases hp
theorem fin_new {o : HO} (w : Wk F O H) (q : QK K F H Q z) (hp : H p = none) (d : Dq K (upd F p o) (.ref p) z) : Q (.ref p) (upd H p o) := by
  have n := Ny.alloc (o := o) w hp
  exact q _ _ _ (same_new hp) n.ff n.fh n.new d
theorem finL (w : Wk F O H) (q : QK K F H Q (.list ds)) (hp : H p = none) (d : DqAll K F vs ds) : Q (.ref p) (upd H p (.lst vs)) :=
  fin_new w q hp (.lst upd_same (d.mono (same_new (w.nF hp))))
theorem finT {its : List Value} (w : Wk F O H) (q : QK K F H Q (.tuple ds)) (hp : H p = none) (d : DqAll K F vs ds) : Q (.ref p) (upd H p (.frz (tup0 its) (.tup vs))) :=
  fin_new w q hp (.tup (.inl ⟨its, upd_same⟩) (d.mono (same_new (w.nF hp))))
theorem Wk.l (w : Wk F O H) {a : Addr} (h : F a = some (.lst vs)) : SqL K H a vs := SqL.of (w.fh _ _ h)
theorem Wk.t (w : Wk F O H) {a : Addr} (h : TD K F a vs) : SqT K H a vs := (h.mono w.fh).sq
theorem dqAll_nil (h : DqAll K F vs ds) : vs = [] ↔ ds = [] := by
  cases h with
  | nil => simp
  | cons _ _ => simp
end
theorem opr_or {X : Cx} {f : Value → Value → Sem Value} {r r' : R2} (h : OpR X f r) (h' : OpR X f r') : OpR X f (fun x y H Q => r x y H Q ∨ r' x y H Q) := by
  intro pins s σ H x y v u Q I rx ry q
  rcases q with q | q
  · exact h pins s σ H x y v u Q I rx ry q
  · exact h' pins s σ H x y v u Q I rx ry q
/-! ### + -/
def rInt2 (g : Int → Int → V) : R2 := rI0 g
def addD : D → D → Option D
  | .int i, .int j => some (.int (i + j))
  | .list a, .list b => if a.length + b.length ≤ lim then some (.list (a ++ b)) else none
  | .tuple a, .tuple b => if a.length + b.length ≤ lim then some (.tuple (a ++ b)) else none
  | .str a, .str b => if a.length + b.length ≤ lim then some (.str (a ++ b)) else none
  | _, _ => none
def rAdds : R2 := fun x y H Q => ∃ i j, x = .str i ∧ y = .str j ∧ i.length + j.length ≤ sizeLine ∧ Q (.str (i ++ j)) H
def rAddA (K : PySem.W.Frag) : R2 := fun x y H Q => (rI0 (fun i j => .int (i + j)) x y H Q ∨ rCat x y H Q) ∨ (rCat0 K x y H Q ∨ rAdds x y H Q)
theorem op_addA {X : Cx} : OpR X (binaryOp .Add) (rAddA X.K) := opr_or (opr_or op_add op_cat) (opr_or op_cat0 op_add_str)
theorem s2_add {K : PySem.W.Frag} : Sd2 K (rAddA K) addD := by
  intro F O H x y a b d w hx hy e Q q
  unfold addD at e
  split at e
  · cases e
    exact .inl (.inl ⟨_, _, hx.int_inv, hy.int_inv, fin0 w q (.int _)⟩)
  · split at e
    · rename_i hl
      cases e
      obtain ⟨p, vs, rfl, h1, h2⟩ := hx.lst_inv
      obtain ⟨p2, ws, rfl, h3, h4⟩ := hy.lst_inv
      exact .inl (.inr ⟨p, p2, vs, ws, rfl, rfl, w.fh _ _ h1, w.fh _ _ h3, lim_le (by rw [h2.len, h4.len]; exact hl), fun l hl => finL w q hl (h2.append h4)⟩)
    · cases e
  · split at e
    · rename_i hl
      cases e
      obtain ⟨p, vs, rfl, h1, h2⟩ := hx.tup_inv
      obtain ⟨p2, ws, rfl, h3, h4⟩ := hy.tup_inv
      refine .inr (.inl ⟨p, p2, vs, ws, rfl, rfl, w.t h1, w.t h3, lim_le (by rw [h2.len, h4.len]; exact hl), fun z => ?_, fun _ z => ?_, fun _ _ l its hl => finT w q hl (h2.append h4)⟩)
      · subst z
        cases h2
        exact fin0 w q hy
      · subst z
        cases h4
        rw [List.append_nil] at q
        exact fin0 w q hx
    · cases e
  · split at e
    · rename_i hl
      cases e
      exact .inr (.inr ⟨_, _, hx.str_inv, hy.str_inv, lim_le hl, fin0 w q (.str _)⟩)
    · cases e
  · cases e

/-! ### - * // % ** -/
def i2D (c : Int → Int → Bool) (g : Int → Int → Int) : D → D → Option D
  | .int i, .int j => if c i j = true then some (.int (g i j)) else none
  | _, _ => none
theorem s2_I {K : PySem.W.Frag} {C : Int → Int → Prop} {c : Int → Int → Bool} {g : Int → Int → Int} (hc : ∀ i j, c i j = true → C i j) : Sd2 K (rI C fun i j => .int (g i j)) (i2D c g) := by
  intro F O H x y a b d w hx hy e Q q
  unfold i2D at e
  split at e
  · split at e
    · rename_i h
      cases e
      exact ⟨_, _, hx.int_inv, hy.int_inv, hc _ _ h, fin0 w q (.int _)⟩
    · cases e
  · cases e
def subD : D → D → Option D
  | .int i, .int j => some (.int (i - j))
  | _, _ => none
theorem s2_sub {K : PySem.W.Frag} : Sd2 K (rI0 fun i j => .int (i - j)) subD := by
  intro F O H x y a b d w hx hy e Q q
  unfold subD at e
  split at e
  · cases e
    exact ⟨_, _, hx.int_inv, hy.int_inv, fin0 w q (.int _)⟩
  · cases e
/-- * : ints of which one is below 2 ^ 64; a list, a tuple times an int -/
def mulD : D → D → Option D
  | .int i, .int j => if (decide (-(2 ^ 64) < i) && decide (i < 2 ^ 64)) || (decide (-(2 ^ 64) < j) && decide (j < 2 ^ 64)) then some (.int (i * j)) else none
  | .list a, .int k => if (decide (-(2 ^ 62) ≤ k) && decide (k < 2 ^ 62)) && decide (a.length * k.toNat ≤ lim) then some (.list (List.replicate k.toNat a).flatten) else none
  | _, _ => none
def rMulA : R2 := fun x y H Q => rI CMul (fun i j => .int (i * j)) x y H Q ∨ rRep x y H Q
theorem op_mulA {X : Cx} : OpR X (binaryOp .Mult) rMulA := opr_or op_mul op_rep
theorem dqAll_rep {K : PySem.W.Frag} {F : Hp} {vs : List V} {ds : List D} (h : DqAll K F vs ds) : ∀ n : Nat, DqAll K F (List.replicate n vs).flatten (List.replicate n ds).flatten
  | 0 => .nil
  | n + 1 => by
    rw [List.replicate_succ, List.replicate_succ, List.flatten_cons, List.flatten_cons]
    exact h.append (dqAll_rep h n)
theorem s2_mul {K : PySem.W.Frag} : Sd2 K rMulA mulD := by
  intro F O H x y a b d w hx hy e Q q
  unfold mulD at e
  split at e
  · split at e
    · rename_i h
      cases e
      refine .inl ⟨_, _, hx.int_inv, hy.int_inv, ?_, fin0 w q (.int _)⟩
      simp only [Bool.or_eq_true, Bool.and_eq_true, decide_eq_true_eq] at h
      exact h
    · cases e
  · split at e
    · rename_i h
      cases e
      simp only [Bool.and_eq_true, decide_eq_true_eq] at h
      obtain ⟨⟨k1, k2⟩, k3⟩ := h
      obtain ⟨p, vs, rfl, h1, h2⟩ := hx.lst_inv
      exact .inr ⟨p, _, vs, rfl, hy.int_inv, w.fh _ _ h1, by omega, by omega, lim_le (by rw [h2.len]; exact k3), fun l hl => finL w q hl (dqAll_rep h2 _)⟩
    · cases e
  · cases e
def fdivD : D → D → Option D := i2D (fun _ j => j != 0 && decide (j.natAbs < 1073741824)) fun i j => i.fdiv j
theorem s2_fdiv {K : PySem.W.Frag} : Sd2 K (rI CDivN fun i j => .int (i.fdiv j)) fdivD := s2_I fun i j h => by
  simp only [Bool.and_eq_true, bne_iff_ne, decide_eq_true_eq] at h
  exact h
def modD : D → D → Option D := i2D (fun _ j => j != 0) fun i j => i.fmod j
theorem s2_mod {K : PySem.W.Frag} : Sd2 K (rI (fun _ j => j ≠ 0) fun i j => .int (i.fmod j)) modD := s2_I fun i j h => by
  simp only [bne_iff_ne] at h
  exact h
def powD : D → D → Option D := i2D (fun i j => decide (0 ≤ j) && decide (j ≤ 1000000) && decide (i.natAbs < 2 ^ 64)) fun i j => i ^ j.toNat
theorem s2_pow {K : PySem.W.Frag} : Sd2 K (rI CPow fun i j => .int (i ^ j.toNat)) powD := s2_I fun i j h => by
  simp only [Bool.and_eq_true, decide_eq_true_eq] at h
  exact ⟨h.1.1, h.1.2, h.2⟩
def negD : D → Option D
  | .int i => some (.int (-i))
  | _ => none
theorem s1_neg {K : PySem.W.Frag} : Sd1 K (rU fun i => .int (-i)) negD := by
  intro F O H x a d w hx e Q q
  unfold negD at e
  split at e
  · cases e
    exact ⟨_, hx.int_inv, fin0 w q (.int _)⟩
  · cases e

/-! ### comparisons -/
def eqD (a b : D) : Option D := if SeqAt.shaped a = true ∧ SeqAt.shaped b = true then some (.bool (PyData.eqv a b)) else none
def neD (a b : D) : Option D := if SeqAt.shaped a = true ∧ SeqAt.shaped b = true then some (.bool (!PyData.eqv a b)) else none
theorem s2_eq {K : PySem.W.Frag} : Sd2 K (rEqD K) eqD := by
  intro F O H x y a b d w hx hy e Q q
  unfold eqD at e
  split at e
  · rename_i h
    cases e
    exact ⟨a, b, (hx.mono w.fh).dp, (hy.mono w.fh).dp, h.1, h.2, fin0 w q (.bl _)⟩
  · cases e
theorem s2_ne {K : PySem.W.Frag} : Sd2 K (rNeD K) neD := by
  intro F O H x y a b d w hx hy e Q q
  unfold neD at e
  split at e
  · rename_i h
    cases e
    exact ⟨a, b, (hx.mono w.fh).dp, (hy.mono w.fh).dp, h.1, h.2, fin0 w q (.bl _)⟩
  · cases e
def cmpD (g : Int → Int → Bool) : D → D → Option D
  | .int i, .int j => some (.bool (g i j))
  | _, _ => none
theorem s2_cmp {K : PySem.W.Frag} {g : Int → Int → Bool} : Sd2 K (rI0 fun i j => .bl (g i j)) (cmpD g) := by
  intro F O H x y a b d w hx hy e Q q
  unfold cmpD at e
  split at e
  · cases e
    exact ⟨_, _, hx.int_inv, hy.int_inv, fin0 w q (.bl _)⟩
  · cases e
abbrev ltD := cmpD fun i j => decide (i < j)
abbrev leD := cmpD fun i j => decide (i ≤ j)
abbrev gtD := cmpD fun i j => decide (j < i)
abbrev geD := cmpD fun i j => decide (j ≤ i)
/-! in, not in: lists and tuples of data of any depth -/
def rInA (K : PySem.W.Frag) (neg : Bool) : R2 := fun x y H Q => ∃ d ds, Dp K H x d ∧ (Dp K H y (.list ds) ∨ Dp K H y (.tuple ds)) ∧ SeqAt.shaped d = true ∧ SeqAt.shaped (.list ds) = true ∧ Q (.bl (if neg then !ds.any fun z => PyData.eqv z d else ds.any fun z => PyData.eqv z d)) H
theorem op_inA {X : Cx} (hu : X.A.units + 65 < cLine) : OpR X (compareOp .In) (rInA X.K false) := by
  intro pins s σ H x y v u Q I rx ry h
  obtain ⟨d, ds, hd, he, sd, se, q⟩ := h
  obtain ⟨as, r1⟩ := Dp.reads I d x v hd rx
  rcases he with he | he
  · obtain ⟨bs, r2⟩ := Dp.reads I (.list ds) y u he ry
    exact SeqAt.in_list_reads r2 r1 (SeqAt.canLay_of_shaped se) (SeqAt.canLay_of_shaped sd) (room_in_shaped sd hu) ⟨.bl _, H, I, rfl, q⟩
  · obtain ⟨bs, r2⟩ := Dp.reads I (.tuple ds) y u he ry
    exact SeqAt.in_tuple_reads r2 r1 (SeqAt.canLay_of_shaped se) (SeqAt.canLay_of_shaped sd) (room_in_shaped sd hu) ⟨.bl _, H, I, rfl, q⟩
theorem op_notInA {X : Cx} (hu : X.A.units + 65 < cLine) : OpR X (compareOp .NotIn) (rInA X.K true) := by
  intro pins s σ H x y v u Q I rx ry h
  obtain ⟨d, ds, hd, he, sd, se, q⟩ := h
  obtain ⟨as, r1⟩ := Dp.reads I d x v hd rx
  rcases he with he | he
  · obtain ⟨bs, r2⟩ := Dp.reads I (.list ds) y u he ry
    exact SeqAt.notIn_list_reads r2 r1 (SeqAt.canLay_of_shaped se) (SeqAt.canLay_of_shaped sd) (room_in_shaped sd hu) ⟨.bl _, H, I, rfl, q⟩
  · obtain ⟨bs, r2⟩ := Dp.reads I (.tuple ds) y u he ry
    exact SeqAt.notIn_tuple_reads r2 r1 (SeqAt.canLay_of_shaped se) (SeqAt.canLay_of_shaped sd) (room_in_shaped sd hu) ⟨.bl _, H, I, rfl, q⟩
def inD (neg : Bool) (x y : D) : Option D := match y with
  | .list ds | .tuple ds => if SeqAt.shaped x = true ∧ SeqAt.shaped (.list ds) = true then some (.bool (if neg then !ds.any fun z => PyData.eqv z x else ds.any fun z => PyData.eqv z x)) else none
  | _ => none
theorem s2_in {K : PySem.W.Frag} {neg : Bool} : Sd2 K (rInA K neg) (inD neg) := by
  intro F O H x y a b d w hx hy e Q q
  unfold inD at e
  split at e
  · split at e
    · rename_i h
      cases e
      exact ⟨a, _, (hx.mono w.fh).dp, .inl (hy.mono w.fh).dp, h.1, h.2, fin0 w q (.bl _)⟩
    · cases e
  · split at e
    · rename_i h
      cases e
      exact ⟨a, _, (hx.mono w.fh).dp, .inr (hy.mono w.fh).dp, h.1, h.2, fin0 w q (.bl _)⟩
    · cases e
  · cases e
/-! is None -/
def isND : D → D → Option D
  | .none, .none => some (.bool true)
  | _, .none => some (.bool false)
  | _, _ => none
def notND : D → D → Option D
  | .none, .none => some (.bool false)
  | _, .none => some (.bool true)
  | _, _ => none
theorem dq_non_iff {K : PySem.W.Frag} {F : Hp} {v : V} {d : D} (h : Dq K F v d) : (v = .non ↔ d = .none) := by
  cases h <;> simp
theorem s2_isN {K : PySem.W.Frag} : Sd2 K (fun x y H Q => y = .non ∧ Q (.bl (decide (x = .non))) H) isND := by
  intro F O H x y a b d w hx hy e Q q
  unfold isND at e
  split at e
  · cases e
    refine ⟨hy.non_inv, ?_⟩
    rw [decide_eq_true hx.non_inv]
    exact fin0 w q (.bl _)
  · rename_i hne
    cases e
    refine ⟨hy.non_inv, ?_⟩
    rw [decide_eq_false fun z => hne ((dq_non_iff hx).mp z)]
    exact fin0 w q (.bl _)
  · cases e
theorem s2_notN {K : PySem.W.Frag} : Sd2 K (fun x y H Q => y = .non ∧ Q (.bl (!decide (x = .non))) H) notND := by
  intro F O H x y a b d w hx hy e Q q
  unfold notND at e
  split at e
  · cases e
    refine ⟨hy.non_inv, ?_⟩
    rw [decide_eq_true hx.non_inv]
    exact fin0 w q (.bl _)
  · rename_i hne
    cases e
    refine ⟨hy.non_inv, ?_⟩
    rw [decide_eq_false fun z => hne ((dq_non_iff hx).mp z)]
    exact fin0 w q (.bl _)
  · cases e

/-! ### subscripts, slices -/
def ixD : D → D → Option D
  | .list ds, .int i => atI ds i
  | .tuple ds, .int i => atI ds i
  | _, _ => none
theorem s2_ix {K : PySem.W.Frag} : Sd2 K (rIx K) ixD := by
  intro F O H x y a b d w hx hy e Q q
  unfold ixD at e
  split at e
  · obtain ⟨p, vs, rfl, h1, h2⟩ := hx.lst_inv
    obtain ⟨u, e3, d3⟩ := atI_q h2 e
    exact .inl ⟨p, vs, _, u, rfl, hy.int_inv, w.l h1, e3, fin0 w q d3⟩
  · obtain ⟨p, vs, rfl, h1, h2⟩ := hx.tup_inv
    obtain ⟨u, e3, d3⟩ := atI_q h2 e
    exact .inr (.inl ⟨p, vs, _, u, rfl, hy.int_inv, w.t h1, e3, fin0 w q d3⟩)
  · cases e
def cutL {α : Type} (xs : List α) (lo hi : Option Int) : List α := (xs.drop (HT.sIx xs.length 0 lo)).take (HT.sIx xs.length xs.length hi - HT.sIx xs.length 0 lo)
theorem cut_q {K : PySem.W.Frag} {F : Hp} {vs : List V} {ds : List D} {lo hi : Option Int} (h : DqAll K F vs ds) : DqAll K F (cutV vs lo hi) (cutL ds lo hi) := by
  unfold cutV cutL
  rw [h.len]
  exact (h.drop _).take _
def rSlA0 (K : PySem.W.Frag) : V → Option Int → Option Int → Hp → VK → Prop := fun x lo hi H Q => rSlL K x lo hi H Q ∨ rSl0 K x lo hi H Q
theorem sl_A0 {X : Cx} : SlR X (rSlA0 X.K) := sl_list.or sl_tup0
def slD : D → Option Int → Option Int → Option D
  | .list ds, lo, hi => some (.list (cutL ds lo hi))
  | .tuple ds, lo, hi => some (.tuple (cutL ds lo hi))
  | _, _, _ => none
theorem ssl {K : PySem.W.Frag} : SdSl K (rSlA0 K) slD := by
  intro F O H x lo hi a d w hx e Q q
  unfold slD at e
  split at e
  · cases e
    obtain ⟨p, vs, rfl, h1, h2⟩ := hx.lst_inv
    exact .inl ⟨p, vs, rfl, w.l h1, fun l hl => finL w q hl (cut_q h2)⟩
  · cases e
    obtain ⟨p, vs, rfl, h1, h2⟩ := hx.tup_inv
    refine .inr ⟨p, vs, rfl, w.t h1, fun z => ?_, fun _ l its hl => finT w q hl (cut_q h2)⟩
    refine fin0 w q ?_
    have e : ∀ ds : List D, ds.length = vs.length → cutL ds lo hi = ds := fun ds hl => by
      unfold cutL
      rw [hl, z.1, z.2, List.drop_zero, Nat.sub_zero, ← hl, List.take_length]
    rw [e _ h2.len.symm]
    exact hx
  · cases e

/-! ### builtins -/
def lenC : List D → Option D
  | [.list ds] => some (.int ds.length)
  | [.tuple ds] => some (.int ds.length)
  | _ => none
def rLen (K : PySem.W.Frag) : List V → Hp → VK → Prop := fun xs H Q => ∃ p ys, xs = [.ref p] ∧ (SqL K H p ys ∨ SqT K H p ys) ∧ Q (.int ys.length) H
theorem one_q {K : PySem.W.Frag} {F : Hp} {vs : List V} {d : D} (h : DqAll K F vs [d]) : ∃ v, vs = [v] ∧ Dq K F v d := by
  cases h with
  | cons a b =>
    cases b
    exact ⟨_, rfl, a⟩
theorem two_q {K : PySem.W.Frag} {F : Hp} {vs : List V} {d e : D} (h : DqAll K F vs [d, e]) : ∃ v u, vs = [v, u] ∧ Dq K F v d ∧ Dq K F u e := by
  cases h with
  | cons a b =>
    obtain ⟨u, rfl, h⟩ := one_q b
    exact ⟨_, _, rfl, a, h⟩
theorem sC_len {K : PySem.W.Frag} : SdC K (rLen K) lenC := by
  intro F O H xs as d w hx e Q q
  unfold lenC at e
  split at e
  · cases e
    obtain ⟨v, rfl, h⟩ := one_q hx
    obtain ⟨p, vs, rfl, h1, h2⟩ := h.lst_inv
    refine ⟨p, vs, rfl, .inl (w.l h1), ?_⟩
    rw [h2.len]
    exact fin0 w q (.int _)
  · cases e
    obtain ⟨v, rfl, h⟩ := one_q hx
    obtain ⟨p, vs, rfl, h1, h2⟩ := h.tup_inv
    refine ⟨p, vs, rfl, .inr (w.t h1), ?_⟩
    rw [h2.len]
    exact fin0 w q (.int _)
  · cases e
/-- a list of ints -/
def intsD : List D → Option (List Int)
  | [] => some []
  | .int i :: r => match intsD r with
    | some is => some (i :: is)
    | none => none
  | _ => none
theorem ints_q {K : PySem.W.Frag} {F : Hp} : ∀ {vs : List V} {ds : List D} {is : List Int}, DqAll K F vs ds → intsD ds = some is → vs = is.map V.int
  | _, _, _, .nil, e => by cases e; rfl
  | _, _, is, .cons (d := d) (ds := r) a b, e => by
    cases d with
    | int i =>
      unfold intsD at e
      cases z : intsD r with
      | none => rw [z] at e; cases e
      | some is' =>
        rw [z] at e
        cases e
        rw [a.int_inv, ints_q b z]
        rfl
    | none => cases e
    | bool _ => cases e
    | str _ => cases e
    | list _ => cases e
    | tuple _ => cases e
    | dict _ => cases e
theorem dqAll_ints {K : PySem.W.Frag} {F : Hp} : ∀ is : List Int, DqAll K F (is.map V.int) (is.map PyData.int)
  | [] => .nil
  | i :: is => .cons (.int i) (dqAll_ints is)
theorem intsD_map : ∀ is : List Int, intsD (is.map PyData.int) = some is
  | [] => rfl
  | i :: is => by simp [intsD, intsD_map is]
def sumC : List D → Option D
  | [.list ds] => mO (intsD ds) fun is => some (.int is.sum)
  | _ => none
theorem sC_sum {K : PySem.W.Frag} : SdC K (rSum K) sumC := by
  intro F O H xs as d w hx e Q q
  unfold sumC at e
  split at e
  · obtain ⟨is, e1, e⟩ := mO_some e
    cases e
    obtain ⟨v, rfl, h⟩ := one_q hx
    obtain ⟨p, vs, rfl, h1, h2⟩ := h.lst_inv
    have := ints_q h2 e1
    subst this
    exact ⟨p, is, rfl, w.l h1, fin0 w q (.int _)⟩
  · cases e
/-- the least, the greatest of a list that is not empty -/
def minI : List Int → Int
  | [] => 0
  | [i] => i
  | i :: r => min i (minI r)
def maxI : List Int → Int
  | [] => 0
  | [i] => i
  | i :: r => max i (maxI r)
theorem minI_le : ∀ {is : List Int}, ∀ y ∈ is, minI is ≤ y
  | [], y, h => by cases h
  | [i], y, h => by
    rw [List.mem_singleton.mp h]
    exact Int.le_refl _
  | i :: j :: r, y, h => by
    show min i (minI (j :: r)) ≤ y
    rcases List.mem_cons.mp h with h | h
    · subst h; omega
    · have := minI_le (is := j :: r) y h
      omega
theorem minI_mem : ∀ {is : List Int}, is ≠ [] → minI is ∈ is
  | [], h => absurd rfl h
  | [i], _ => List.mem_singleton.mpr rfl
  | i :: j :: r, _ => by
    show min i (minI (j :: r)) ∈ _
    have h := minI_mem (is := j :: r) (fun z => nomatch z)
    by_cases c : i ≤ minI (j :: r)
    · rw [Int.min_eq_left c]; exact List.mem_cons_self
    · rw [Int.min_eq_right (by omega)]; exact List.mem_cons_of_mem _ h
theorem maxI_ge : ∀ {is : List Int}, ∀ y ∈ is, y ≤ maxI is
  | [], y, h => by cases h
  | [i], y, h => by
    rw [List.mem_singleton.mp h]
    exact Int.le_refl _
  | i :: j :: r, y, h => by
    show y ≤ max i (maxI (j :: r))
    rcases List.mem_cons.mp h with h | h
    · subst h; omega
    · have := maxI_ge (is := j :: r) y h
      omega
theorem maxI_mem : ∀ {is : List Int}, is ≠ [] → maxI is ∈ is
  | [], h => absurd rfl h
  | [i], _ => List.mem_singleton.mpr rfl
  | i :: j :: r, _ => by
    show max i (maxI (j :: r)) ∈ _
    have h := maxI_mem (is := j :: r) (fun z => nomatch z)
    by_cases c : i ≤ maxI (j :: r)
    · rw [Int.max_eq_right c]; exact List.mem_cons_of_mem _ h
    · rw [Int.max_eq_left (by omega)]; exact List.mem_cons_self
def minC : List D → Option D
  | [.list ds] => mO (intsD ds) fun is => if is = [] then none else some (.int (minI is))
  | [.int i, .int j] => some (.int (min i j))
  | _ => none
def maxC : List D → Option D
  | [.list ds] => mO (intsD ds) fun is => if is = [] then none else some (.int (maxI is))
  | [.int i, .int j] => some (.int (max i j))
  | _ => none
def rMin2 : List V → Hp → VK → Prop := fun xs H Q => ∃ i j, xs = [.int i, .int j] ∧ Q (.int (if j < i then j else i)) H
def rMax2 : List V → Hp → VK → Prop := fun xs H Q => ∃ i j, xs = [.int i, .int j] ∧ Q (.int (if j > i then j else i)) H
def rMinA (K : PySem.W.Frag) : List V → Hp → VK → Prop := fun xs H Q => rMin K xs H Q ∨ rMin2 xs H Q
def rMaxA (K : PySem.W.Frag) : List V → Hp → VK → Prop := fun xs H Q => rMax K xs H Q ∨ rMax2 xs H Q
theorem cr_minA {X : Cx} (hc : X.calm = true) : CallR X (.builtin "min") (rMinA X.K) := (cr_min hc).or (call_min2 hc)
theorem cr_maxA {X : Cx} (hc : X.calm = true) : CallR X (.builtin "max") (rMaxA X.K) := (cr_max hc).or (call_max2 hc)
theorem sC_min {K : PySem.W.Frag} : SdC K (rMinA K) minC := by
  intro F O H xs as d w hx e Q q
  unfold minC at e
  split at e
  · obtain ⟨is, e1, e⟩ := mO_some e
    split at e
    · cases e
    · rename_i hne
      cases e
      obtain ⟨v, rfl, h⟩ := one_q hx
      obtain ⟨p, vs, rfl, h1, h2⟩ := h.lst_inv
      have := ints_q h2 e1
      subst this
      refine .inl ⟨p, is, rfl, w.l h1, ?_, fun m hm hle => ?_⟩
      · cases is with
        | nil => exact absurd rfl hne
        | cons _ _ => exact Nat.succ_pos _
      · have e : m = minI is := Int.le_antisymm (hle _ (minI_mem hne)) (minI_le _ hm)
        rw [e]
        exact fin0 w q (.int _)
  · cases e
    obtain ⟨v, u, rfl, h, h'⟩ := two_q hx
    cases h
    cases h'
    refine .inr ⟨_, _, rfl, ?_⟩
    rename_i i j
    have e : (if j < i then j else i) = min i j := by split <;> omega
    rw [e]
    exact fin0 w q (.int _)
  · cases e
theorem sC_max {K : PySem.W.Frag} : SdC K (rMaxA K) maxC := by
  intro F O H xs as d w hx e Q q
  unfold maxC at e
  split at e
  · obtain ⟨is, e1, e⟩ := mO_some e
    split at e
    · cases e
    · rename_i hne
      cases e
      obtain ⟨v, rfl, h⟩ := one_q hx
      obtain ⟨p, vs, rfl, h1, h2⟩ := h.lst_inv
      have := ints_q h2 e1
      subst this
      refine .inl ⟨p, is, rfl, w.l h1, ?_, fun m hm hle => ?_⟩
      · cases is with
        | nil => exact absurd rfl hne
        | cons _ _ => exact Nat.succ_pos _
      · have e : m = maxI is := Int.le_antisymm (maxI_ge _ hm) (hle _ (maxI_mem hne))
        rw [e]
        exact fin0 w q (.int _)
  · cases e
    obtain ⟨v, u, rfl, h, h'⟩ := two_q hx
    cases h
    cases h'
    refine .inr ⟨_, _, rfl, ?_⟩
    rename_i i j
    have e : (if j > i then j else i) = max i j := by split <;> omega
    rw [e]
    exact fin0 w q (.int _)
  · cases e
def absC : List D → Option D
  | [.int i] => some (.int (if i < 0 then -i else i))
  | _ => none
theorem sC_abs {K : PySem.W.Frag} : SdC K (fun xs H Q => ∃ i, xs = [.int i] ∧ Q (.int (if i < 0 then -i else i)) H) absC := by
  intro F O H xs as d w hx e Q q
  unfold absC at e
  split at e
  · cases e
    obtain ⟨v, rfl, h⟩ := one_q hx
    cases h
    exact ⟨_, rfl, fin0 w q (.int _)⟩
  · cases e
def intC : List D → Option D
  | [.int i] => some (.int i)
  | [.bool b] => some (.int (if b then 1 else 0))
  | _ => none
theorem sC_int {K : PySem.W.Frag} : SdC K (fun xs H Q => (∃ i, xs = [.int i] ∧ Q (.int i) H) ∨ ∃ k, xs = [.bl k] ∧ Q (.int (if k then 1 else 0)) H) intC := by
  intro F O H xs as d w hx e Q q
  unfold intC at e
  split at e
  · cases e
    obtain ⟨v, rfl, h⟩ := one_q hx
    cases h
    exact .inl ⟨_, rfl, fin0 w q (.int _)⟩
  · cases e
    obtain ⟨v, rfl, h⟩ := one_q hx
    cases h
    exact .inr ⟨_, rfl, fin0 w q (.int _)⟩
  · cases e
/-- sorted ints -/
def insI (i : Int) : List Int → List Int
  | [] => [i]
  | j :: r => if i ≤ j then i :: j :: r else j :: insI i r
def sortI : List Int → List Int
  | [] => []
  | i :: r => insI i (sortI r)
theorem insI_perm (i : Int) : ∀ is : List Int, (insI i is).Perm (i :: is)
  | [] => .refl _
  | j :: r => by
    unfold insI
    split
    · exact .refl _
    · exact ((insI_perm i r).cons j).trans (.swap i j r)
theorem sortI_perm : ∀ is : List Int, (sortI is).Perm is
  | [] => .refl _
  | i :: r => (insI_perm i (sortI r)).trans ((sortI_perm r).cons i)
theorem insI_sorted (i : Int) : ∀ {is : List Int}, is.Pairwise (· ≤ ·) → (insI i is).Pairwise (· ≤ ·)
  | [], _ => List.pairwise_singleton _ _
  | j :: r, h => by
    unfold insI
    obtain ⟨h1, h2⟩ := List.pairwise_cons.mp h
    split
    · rename_i hij
      refine List.pairwise_cons.mpr ⟨fun x hx => ?_, h⟩
      rcases List.mem_cons.mp hx with e | hx
      · rw [e]; exact hij
      · exact Int.le_trans hij (h1 x hx)
    · rename_i hij
      refine List.pairwise_cons.mpr ⟨fun x hx => ?_, insI_sorted i h2⟩
      rcases List.mem_cons.mp ((insI_perm i r).mem_iff.mp hx) with e | hx
      · rw [e]; omega
      · exact h1 x hx
theorem sortI_sorted : ∀ is : List Int, (sortI is).Pairwise (· ≤ ·)
  | [] => List.Pairwise.nil
  | i :: r => insI_sorted i (sortI_sorted r)
theorem sorted_one {as bs : List Int} (p : as.Perm bs) (ha : as.Pairwise (· ≤ ·)) (hb : bs.Pairwise (· ≤ ·)) : as = bs := by
  induction as generalizing bs with
  | nil => exact (List.Perm.nil_eq p)
  | cons a as ih =>
    cases bs with
    | nil => exact absurd p.symm (fun q => by have := q.length_eq; simp at this)
    | cons b bs =>
      obtain ⟨h1, h2⟩ := List.pairwise_cons.mp ha
      obtain ⟨h3, h4⟩ := List.pairwise_cons.mp hb
      have e : a = b := by
        have m1 : a ∈ b :: bs := p.mem_iff.mp List.mem_cons_self
        have m2 : b ∈ a :: as := p.mem_iff.mpr List.mem_cons_self
        rcases List.mem_cons.mp m1 with e | m1
        · exact e
        · rcases List.mem_cons.mp m2 with e | m2
          · exact e.symm
          · exact Int.le_antisymm (h1 b m2) (h3 a m1)
      subst e
      rw [ih (List.Perm.cons_inv p) h2 h4]
def sortC : List D → Option (List D)
  | [.list ds] => mO (intsD ds) fun is => some ((sortI is).map .int)
  | [.tuple ds] => mO (intsD ds) fun is => some ((sortI is).map .int)
  | _ => none
/-- a call that makes a new list -/
def SdCN (K : PySem.W.Frag) (r : List V → Hp → VK → Prop) (f : List D → Option (List D)) : Prop := ∀ F O H xs as ds, Wk F O H → DqAll K F xs as → f as = some ds → ∀ Q : VK,
  (∀ p vs, H p = none → DqAll K F vs ds → Q (.ref p) (upd H p (.lst vs))) → r xs H Q
def Sd2N (K : PySem.W.Frag) (r : R2) (f : D → D → Option (List D)) : Prop := ∀ F O H x y a b ds, Wk F O H → Dq K F x a → Dq K F y b → f a b = some ds → ∀ Q : VK,
  (∀ p vs, H p = none → DqAll K F vs ds → Q (.ref p) (upd H p (.lst vs))) → r x y H Q
def SdSlN (K : PySem.W.Frag) (r : V → Option Int → Option Int → Hp → VK → Prop) (f : D → Option Int → Option Int → Option (List D)) : Prop := ∀ F O H x lo hi a ds, Wk F O H → Dq K F x a → f a lo hi = some ds → ∀ Q : VK,
  (∀ p vs, H p = none → DqAll K F vs ds → Q (.ref p) (upd H p (.lst vs))) → r x lo hi H Q
/-- sorted of a tuple of ints too -/
def rSortedTI (K : PySem.W.Frag) : List V → Hp → VK → Prop := fun vs H Q => ∃ (p : Addr) (ns : List Int), vs = [V.ref p] ∧ SqT K H p (ns.map V.int) ∧
  ∀ (out : List Int) (l : Addr), out.Perm ns → out.Pairwise (· ≤ ·) → H l = none → Q (.ref l) (upd H l (.lst (out.map V.int)))
theorem cr_sortedTI {X : Cx} : CallR X (.builtin "sorted") (rSortedTI X.K) := by
  intro pins s σ H vs us Q I r h
  obtain ⟨p, ns, rfl, hs, q⟩ := h
  obtain ⟨its, rv, ht, hz⟩ := I.tuple hs
  rw [Vals.ref1 r]
  have hi := rv.ints
  have hzi : its.length ≤ sizeLine := by rw [← rv.length]; exact hz
  obtain ⟨o, ho, hc, n, hd⟩ := id ht
  refine Calls.call_function_entry PyProof.Rows.kind_sorted PyProof.Rows.plain_sorted PyProof.Rows.entry_sorted (PyProof.Rows.args_sorted1 _) ?_
  unfold Builtin.«sorted»
  refine wpAny_bind (m := checkCount "sorted" 1 1 _) (wpAny_pure (wpAny_bind (wpAny_collect_seq p (.inr rfl) ho hc hd (fun g kp => ?_) (by rw [List.size_toArray]; exact hzi))))
  refine wpAny_bind (wpAny_newList ?_ hzi)
  have hn : (g.push (PyProof.Rows.seqObj "list" its.toArray 0)).get? g.objs.size = some (PyProof.Rows.seqObj "list" its.toArray 0) := Heap.get?_push_size _ rfl
  have kept : ∀ b u, s.heap.get? b = some u → b < g.objs.size ∧ g.get? b = some u := fun b u e => ⟨Heap.lt_size (kp b u e), kp b u e⟩
  have hnH : H g.objs.size = none := (I.hok.kept kp).fresh (Nat.le_refl _)
  have hns : s.heap.get? g.objs.size = none := by
    cases z : s.heap.get? g.objs.size with
    | none => rfl
    | some u => exact absurd (kept _ u z).1 (Nat.lt_irrefl _)
  refine wpAny_bind (wpAny_holding (wpAny_call_entry PyProof.Rows.slot_list_sort ⟨_, hn, rfl⟩ PyProof.Rows.entry_list_sort
    (SrtO.list_sort_ord SrtO.swo_int hn hzi (fun h2 => SrtO.ints_sortable hi h2) fun out h1 h2 => ⟨_, rfl, wpAny_pure ⟨_, rfl, ?_⟩⟩) (PyProof.Rows.args_list_sort _)))
  obtain ⟨k1, k2, k3⟩ := SrtO.ints_out hi h1 h2
  obtain ⟨ep, he'⟩ := PyProof.Rows.sortedHeap_at (vs := its) (out := out.toArray) hn
  have hlen : ((out.map SrtO.iv).map V.int).length ≤ sizeLine := by
    rw [List.length_map] at hz ⊢
    rw [k2.length_eq]
    exact hz
  have old : ∀ b u, s.heap.get? b = some u → (PyProof.Rows.sortedHeap (g.push (PyProof.Rows.seqObj "list" its.toArray 0)) g.objs.size its out.toArray).get? b = some u := fun b u e => by
    obtain ⟨z1, z2⟩ := kept b u e
    rw [PyProof.Rows.sortedHeap_old (Nat.ne_of_lt z1) (Nat.lt_of_lt_of_le z1 (by rw [PyProof.Rows.size_push']; exact Nat.le_succ _))]
    exact Heap.get?_push_of_some _ z2
  exact ⟨.ref _, upd H g.objs.size (.lst ((out.map SrtO.iv).map V.int)), I.laidN (t' := s.toks) old hns hnH ⟨hlen, out, ep, vals_of_ints k1, he'⟩, rfl, q _ _ k2 k3 hnH⟩
def rSortedA (K : PySem.W.Frag) : List V → Hp → VK → Prop := fun xs H Q => rSortedI K xs H Q ∨ rSortedTI K xs H Q
theorem cr_sortedA {X : Cx} : CallR X (.builtin "sorted") (rSortedA X.K) := CallR.or cr_sortedI cr_sortedTI
theorem sCN_sorted {K : PySem.W.Frag} : SdCN K (rSortedA K) sortC := by
  intro F O H xs as ds w hx e Q q
  unfold sortC at e
  split at e
  · obtain ⟨is, e1, e⟩ := mO_some e
    cases e
    obtain ⟨v, rfl, h⟩ := one_q hx
    obtain ⟨p, vs, rfl, h1, h2⟩ := h.lst_inv
    have := ints_q h2 e1
    subst this
    refine .inl ⟨p, is, rfl, w.l h1, fun ns' p' pm sr hp => ?_⟩
    have e : ns' = sortI is := sorted_one (pm.trans (sortI_perm is).symm) sr (sortI_sorted is)
    rw [e]
    exact q p' _ hp (dqAll_ints _)
  · obtain ⟨is, e1, e⟩ := mO_some e
    cases e
    obtain ⟨v, rfl, h⟩ := one_q hx
    obtain ⟨p, vs, rfl, h1, h2⟩ := h.tup_inv
    have := ints_q h2 e1
    subst this
    refine .inr ⟨p, is, rfl, w.t h1, fun ns' p' pm sr hp => ?_⟩
    have e : ns' = sortI is := sorted_one (pm.trans (sortI_perm is).symm) sr (sortI_sorted is)
    rw [e]
    exact q p' _ hp (dqAll_ints _)
  · cases e
def listC : List D → Option (List D)
  | [.list ds] => some ds
  | [.tuple ds] => some ds
  | _ => none
def rListA (K : PySem.W.Frag) : List V → Hp → VK → Prop := fun xs H Q => ∃ p ys, xs = [.ref p] ∧ (SqL K H p ys ∨ SqT K H p ys) ∧ ∀ l, H l = none → Q (.ref l) (upd H l (.lst ys))
theorem sCN_list {K : PySem.W.Frag} : SdCN K (rListA K) listC := by
  intro F O H xs as ds w hx e Q q
  unfold listC at e
  split at e
  · cases e
    obtain ⟨v, rfl, h⟩ := one_q hx
    obtain ⟨p, vs, rfl, h1, h2⟩ := h.lst_inv
    exact ⟨p, vs, rfl, .inl (w.l h1), fun l hl => q l vs hl h2⟩
  · cases e
    obtain ⟨v, rfl, h⟩ := one_q hx
    obtain ⟨p, vs, rfl, h1, h2⟩ := h.tup_inv
    exact ⟨p, vs, rfl, .inr (w.t h1), fun l hl => q l vs hl h2⟩
  · cases e
def tupleC : List D → Option D
  | [.list ds] => some (.tuple ds)
  | [.tuple ds] => some (.tuple ds)
  | _ => none
theorem sC_tuple {K : PySem.W.Frag} : SdC K (rTup0 K) tupleC := by
  intro F O H xs as d w hx e Q q
  unfold tupleC at e
  split at e
  · cases e
    obtain ⟨v, rfl, h⟩ := one_q hx
    obtain ⟨p, vs, rfl, h1, h2⟩ := h.lst_inv
    exact ⟨p, vs, rfl, .inl ⟨w.l h1, fun l its hl => finT w q hl h2⟩⟩
  · cases e
    obtain ⟨v, rfl, h⟩ := one_q hx
    obtain ⟨p, vs, rfl, h1, h2⟩ := h.tup_inv
    exact ⟨p, vs, rfl, .inr ⟨w.t h1, fin0 w q h⟩⟩
  · cases e
def catN : D → D → Option (List D)
  | .list a, .list b => if a.length + b.length ≤ lim then some (a ++ b) else none
  | _, _ => none
theorem s2N_add {K : PySem.W.Frag} : Sd2N K (rAddA K) catN := by
  intro F O H x y a b d w hx hy e Q q
  unfold catN at e
  split at e
  · split at e
    · rename_i hl
      cases e
      obtain ⟨p, vs, rfl, h1, h2⟩ := hx.lst_inv
      obtain ⟨p2, ws, rfl, h3, h4⟩ := hy.lst_inv
      exact .inl (.inr ⟨p, p2, vs, ws, rfl, rfl, w.fh _ _ h1, w.fh _ _ h3, lim_le (by rw [h2.len, h4.len]; exact hl), fun l hl => q l _ hl (h2.append h4)⟩)
    · cases e
  · cases e
def repN : D → D → Option (List D)
  | .list a, .int k => if (decide (-(2 ^ 62) ≤ k) && decide (k < 2 ^ 62)) && decide (a.length * k.toNat ≤ lim) then some (List.replicate k.toNat a).flatten else none
  | _, _ => none
theorem s2N_mul {K : PySem.W.Frag} : Sd2N K rMulA repN := by
  intro F O H x y a b d w hx hy e Q q
  unfold repN at e
  split at e
  · split at e
    · rename_i h
      cases e
      simp only [Bool.and_eq_true, decide_eq_true_eq] at h
      obtain ⟨⟨k1, k2⟩, k3⟩ := h
      obtain ⟨p, vs, rfl, h1, h2⟩ := hx.lst_inv
      exact .inr ⟨p, _, vs, rfl, hy.int_inv, w.fh _ _ h1, by omega, by omega, lim_le (by rw [h2.len]; exact k3), fun l hl => q l _ hl (dqAll_rep h2 _)⟩
    · cases e
  · cases e
def cutN : D → Option Int → Option Int → Option (List D)
  | .list ds, lo, hi => some (cutL ds lo hi)
  | _, _, _ => none
theorem sslN {K : PySem.W.Frag} : SdSlN K (rSlA0 K) cutN := by
  intro F O H x lo hi a d w hx e Q q
  unfold cutN at e
  split at e
  · cases e
    obtain ⟨p, vs, rfl, h1, h2⟩ := hx.lst_inv
    exact .inl ⟨p, vs, rfl, w.l h1, fun l hl => q l _ hl (cut_q h2)⟩
  · cases e
end DL

set_option Elab.async false
set_option linter.all false
set_option maxRecDepth 100000
set_option maxHeartbeats 4000000
/-! DL4: new lists, ranges, index, what is walked, comprehensions. -/
namespace DL
open PySem PySem.Spec PyProof.Rows L2

section
variable {K : PySem.W.Frag} {ta tb te : TE} {ga gb ge : Y}
/-! ### new lists by calls, operations, slices -/
def ynC (f : List D → Option (List D)) (a : Yl) : Yl := fun ρ s => bO (a ρ s) fun xs s1 => mO (f xs) fun ds => some (ds, s1)
def yn2 (f : D → D → Option (List D)) (a b : Y) : Yl := fun ρ s => bO (a ρ s) fun x s1 => bO (b ρ s1) fun y s2 => mO (f x y) fun d => some (d, s2)
def ynSl (f : D → Option Int → Option Int → Option (List D)) (a : Y) (l u : Yo) : Yl := fun ρ s => bO (a ρ s) fun x s1 => bO (l ρ s1) fun lo s2 => bO (u ρ s2) fun hi s3 => mO (f x lo hi) fun d => some (d, s3)
theorem n_end {F F1 H H1 : Hp} {O : Om} {pc : Pc} {s' : Src} {Q : VK} {p : Addr} {vs : List V} {ds : List D} (w : Wk F O H) (n1 : Ny O F H F1 H1) (sr : SrcOk O H1 pc s')
    (q : ∀ p vs F' H', Ny O F H F' H' → SrcOk O H' pc s' → H p = none → F' p = none → H' p = some (.lst vs) → DqAll K F' vs ds → Q (.ref p) H') (hp : H1 p = none) (d : DqAll K F1 vs ds) : Q (.ref p) (upd H1 p (.lst vs)) := by
  have w1 := n1.wk w
  refine q p vs F1 _ (n1.trans (Ny.pure w1 (same_new hp) (Same.refl _) (w1.fh.trans (same_new hp)) fun _ _ h => .inl h)) (sr.same (same_new hp)) ?_ (w1.nF hp) upd_same d
  cases z : H p with
  | none => rfl
  | some u => exact absurd hp (n1.dom p (by rw [z]; exact fun z => nomatch z))
theorem sn_C {r : List V → Hp → VK → Prop} {f : List D → Option (List D)} {t : TA} {g : Yl} (hr : SdCN K r f) (ha : SdA K t g) : SdN K (tCB r t) (ynC f g) := by
  intro F O H pc σ ρ s d s' st h Q q
  obtain ⟨x, s1, e1, h⟩ := bO_some h
  obtain ⟨z, e2, h⟩ := mO_some h
  cases h
  refine ha F O H pc σ ρ s x _ st e1 _ fun v F1 H1 n1 sr1 d1 => ?_
  exact hr F1 O H1 v x _ (n1.wk st.wk) d1 e2 Q fun p vs hp d2 => n_end st.wk n1 sr1 q hp d2
theorem sn_2 {r : R2} {f : D → D → Option (List D)} (hr : Sd2N K r f) (ha : SdY K ta ga) (hb : SdY K tb gb) : SdN K (tOp r ta tb) (yn2 f ga gb) := by
  intro F O H pc σ ρ s d s' st h Q q
  obtain ⟨x, s1, e1, h⟩ := bO_some h
  obtain ⟨y, s2, e2, h⟩ := bO_some h
  obtain ⟨z, e3, h⟩ := mO_some h
  cases h
  refine ha F O H pc σ ρ s x s1 st e1 _ fun v F1 H1 n1 sr1 d1 => ?_
  refine hb F1 O H1 pc σ ρ s1 y _ (st.ny n1 sr1) e2 _ fun u F2 H2 n2 sr2 d2 => ?_
  exact hr F2 O H2 v u x y _ (n2.wk (n1.wk st.wk)) (d1.mono n2.ff) d2 e3 Q fun p vs hp d3 => n_end st.wk (n1.trans n2) sr2 q hp d3
theorem sn_sl {r : V → Option Int → Option Int → Hp → VK → Prop} {f : D → Option Int → Option Int → Option (List D)} {tl th : TO} {gl gh : Yo} (hr : SdSlN K r f) (ha : SdY K te ge) (hl : SdO K tl gl) (hh : SdO K th gh) : SdN K (tSl r te tl th) (ynSl f ge gl gh) := by
  intro F O H pc σ ρ s d s' st h Q q
  obtain ⟨x, s1, e1, h⟩ := bO_some h
  obtain ⟨lo, s2, e2, h⟩ := bO_some h
  obtain ⟨hi, s3, e3, h⟩ := bO_some h
  obtain ⟨z, e4, h⟩ := mO_some h
  cases h
  refine ha F O H pc σ ρ s x s1 st e1 _ fun v F1 H1 n1 sr1 d1 => ?_
  have st1 := st.ny n1 sr1
  refine hl F1 O H1 pc σ ρ s1 lo s2 st1 e2 _ fun F2 H2 n2 sr2 => ?_
  have st2 := st1.ny n2 sr2
  refine hh F2 O H2 pc σ ρ s2 hi _ st2 e3 _ fun F3 H3 n3 sr3 => ?_
  exact hr F3 O H3 v lo hi x _ (n3.wk st2.wk) ((d1.mono n2.ff).mono n3.ff) e4 Q fun p vs hp d4 => n_end st.wk ((n1.trans n2).trans n3) sr3 q hp d4

/-! ### e[::-1] -/
def revD : D → Option D
  | .list ds => some (.list ds.reverse)
  | _ => none
def revN : D → Option (List D)
  | .list ds => some ds.reverse
  | _ => none
def yn1 (f : D → Option (List D)) (a : Y) : Yl := fun ρ s => bO (a ρ s) fun x s1 => mO (f x) fun ds => some (ds, s1)
theorem sn_rev (h : SdY K te ge) : SdN K (tRevL K te) (yn1 revN ge) := by
  intro F O H pc σ ρ s d s' st e Q q
  obtain ⟨x, s1, e1, e⟩ := bO_some e
  obtain ⟨z, e2, e⟩ := mO_some e
  cases e
  refine h F O H pc σ ρ s x _ st e1 _ fun v F1 H1 n1 sr1 d1 => ?_
  unfold revN at e2
  split at e2
  · cases e2
    obtain ⟨p, vs, rfl, h1, h2⟩ := d1.lst_inv
    exact ⟨p, vs, rfl, (n1.wk st.wk).l h1, fun l hl => n_end st.wk n1 sr1 q hl h2.reverse⟩
  · cases e2

/-! ### list(range(..)), tuple(range(..)) -/
abbrev Yr := Rho → Src → Option ((Int × Int) × Src)
def SdR (K : PySem.W.Frag) (t : L2.St → Hp → (Int → Int → Hp → Prop) → Prop) (g : Yr) : Prop := ∀ F O H pc σ ρ s ab s', Stt K F O H pc σ ρ s → g ρ s = some (ab, s') → ∀ Q : Int → Int → Hp → Prop,
  (∀ F' H', Ny O F H F' H' → SrcOk O H' pc s' → Q ab.1 ab.2 H') → t σ H Q
def rg1 (a : Y) : Yr := fun ρ s => bO (a ρ s) fun x s1 => match x with
  | .int n => some ((0, n), s1)
  | _ => none
def rg2 (a b : Y) : Yr := fun ρ s => bO (a ρ s) fun x s1 => bO (b ρ s1) fun y s2 => match x, y with
  | .int i, .int j => some ((i, j), s2)
  | _, _ => none
theorem sr_1 (h : SdY K ta ga) : SdR K (tRg1 ta) (rg1 ga) := by
  intro F O H pc σ ρ s d s' st e Q q
  obtain ⟨x, s1, e1, e⟩ := bO_some e
  refine h F O H pc σ ρ s x _ st e1 _ fun v F1 H1 n1 sr1 d1 => ?_
  split at e
  · cases e
    exact ⟨_, d1.int_inv, q F1 H1 n1 sr1⟩
  · cases e
theorem sr_2 (h : SdY K ta ga) (h' : SdY K tb gb) : SdR K (tRg2 ta tb) (rg2 ga gb) := by
  intro F O H pc σ ρ s d s' st e Q q
  obtain ⟨x, s1, e1, e⟩ := bO_some e
  obtain ⟨y, s2, e2, e⟩ := bO_some e
  refine h F O H pc σ ρ s x _ st e1 _ fun v F1 H1 n1 sr1 d1 => ?_
  refine h' F1 O H1 pc σ ρ s1 y _ (st.ny n1 sr1) e2 _ fun u F2 H2 n2 sr2 d2 => ?_
  split at e
  · cases e
    exact ⟨_, _, d1.int_inv, d2.int_inv, q F2 H2 (n1.trans n2) sr2⟩
  · cases e
def rgD (a b : Int) : List D := (List.range (b - a).toNat).map fun i => .int (a + (i : Nat))
theorem rg_q {F : Hp} (a b : Int) : DqAll K F (rgV a b) (rgD a b) := by
  unfold rgV rgD
  induction (List.range (b - a).toNat) with
  | nil => exact .nil
  | cons x xs ih => exact .cons (.int _) ih
def rgOk (a b : Int) : Bool := decide (-100000 ≤ a) && decide (a ≤ 100000) && decide (-100000 ≤ b) && decide (b ≤ 100000)
theorem rgOk_ok {a b : Int} (h : rgOk a b = true) : RgOk a b := by
  simp only [rgOk, Bool.and_eq_true, decide_eq_true_eq] at h
  obtain ⟨⟨⟨h1, h2⟩, h3⟩, h4⟩ := h
  exact ⟨by omega, by omega, by omega, by omega, by omega⟩
def ynR (g : Yr) : Yl := fun ρ s => bO (g ρ s) fun ab s1 => if rgOk ab.1 ab.2 = true then some (rgD ab.1 ab.2, s1) else none
def yR (g : Yr) : Y := fun ρ s => bO (g ρ s) fun ab s1 => if rgOk ab.1 ab.2 = true then some (.tuple (rgD ab.1 ab.2), s1) else none
theorem sn_range {t : L2.St → Hp → (Int → Int → Hp → Prop) → Prop} {g : Yr} (h : SdR K t g) : SdN K (tLstRg t) (ynR g) := by
  intro F O H pc σ ρ s d s' st e Q q
  obtain ⟨⟨a, b⟩, s1, e1, e⟩ := bO_some e
  split at e
  · rename_i hr
    cases e
    exact h F O H pc σ ρ s _ _ st e1 _ fun F1 H1 n1 sr1 => ⟨rgOk_ok hr, fun l hl => n_end st.wk n1 sr1 q hl (rg_q a b)⟩
  · cases e
theorem sd_trange {t : L2.St → Hp → (Int → Int → Hp → Prop) → Prop} {g : Yr} (h : SdR K t g) : SdY K (tTupRg0 t) (yR g) := by
  intro F O H pc σ ρ s d s' st e Q q
  obtain ⟨⟨a, b⟩, s1, e1, e⟩ := bO_some e
  split at e
  · rename_i hr
    cases e
    refine h F O H pc σ ρ s _ _ st e1 _ fun F1 H1 n1 sr1 => ⟨rgOk_ok hr, fun l its hl => ?_⟩
    have w1 := n1.wk st.wk
    exact finT (ds := rgD a b) w1 (fun v F2 H2 a1 a2 a3 a4 a5 => q v F2 H2 (n1.trans (Ny.pure w1 a1 a2 a3 a4)) (sr1.same a1) a5) hl (rg_q a b)
  · cases e

/-! ### x.index(e) -/
def idxL (d : D) : List D → Nat → Option Nat
  | [], _ => none
  | z :: r, n => if PyData.eqv z d = true then some n else idxL d r (n + 1)
theorem idxL_spec (d : D) : ∀ (ds : List D) (n j : Nat), idxL d ds n = some j → n ≤ j ∧ ∃ z, ds[j - n]? = some z ∧ PyData.eqv z d = true ∧ ∀ (m : Nat) (z' : D), m < j - n → ds[m]? = some z' → PyData.eqv z' d = false
  | [], n, j, h => by cases h
  | z :: r, n, j, h => by
    unfold idxL at h
    split at h
    · rename_i hz
      cases h
      exact ⟨Nat.le_refl _, z, by simp, hz, fun m z' hm => by omega⟩
    · rename_i hz
      obtain ⟨h1, z2, h2, h3, h4⟩ := idxL_spec d r (n + 1) j h
      refine ⟨by omega, z2, ?_, h3, fun m z' hm hm' => ?_⟩
      · rw [show j - n = (j - (n + 1)) + 1 by omega, List.getElem?_cons_succ]
        exact h2
      · cases m with
        | zero =>
          simp at hm'
          subst hm'
          exact Bool.eq_false_iff.mpr hz
        | succ m =>
          rw [List.getElem?_cons_succ] at hm'
          exact h4 m z' (by omega) hm'
def idxD (x d : D) : Option D := match x with
  | .list ds => if SeqAt.shaped (.list ds) = true ∧ SeqAt.shaped d = true then mO (idxL d ds 0) fun j => some (.int (j : Nat)) else none
  | .tuple ds => if ds.all scalD = true ∧ scalD d = true then mO (idxL d ds 0) fun j => some (.int (j : Nat)) else none
  | _ => none
def tIdx (K : PySem.W.Frag) (ta te : TE) : TE := fun σ H Q => tBM K "list" (rIndexD K) ta (tCons te tNil) σ H Q ∨ tBMT K (rTIx K) ta (tCons te tNil) σ H Q
theorem pe_or {X : Cx} {e : Expr} {t u : TE} (h : PE X e t) (h' : PE X e u) : PE X e (fun σ H Q => t σ H Q ∨ u σ H Q) := ⟨fun pins s σ H Q I q => q.elim (h.run pins s σ H Q I) (h'.run pins s σ H Q I)⟩
theorem pe_idx {X : Cx} {o e : Expr} {to te : TE} {apos cpos : Pos} (hu : X.A.units + 65 < cLine) (ho : PE X o to) (he : PE X e te)
    (hbase : attributeBase o "index" X.env (eval o X.env) = eval o X.env := by rfl)
    (hfew : ((backTo cpos (starEach [e] X.env)).all (fun x => !x.1) && (backToKw cpos (keywordEach [] X.env)).all (fun x => x.1.isSome)
      && decide ([e].length + ([] : List Keyword).length + (if ([] : List Keyword).isEmpty then 0 else 1) < 30)) = true := by rfl)
    (hline : (apos.endLine == cpos.line) = true := by rfl) (hs : starEach [e] X.env = (false, eval e X.env) :: starEach [] X.env := by rfl) (hplain : (backTo cpos (starEach [] X.env)).any (·.1) = false := by rfl) :
    PE X (.Call (.Attribute o "index" apos) [e] [] cpos) (tIdx X.K to te) :=
  pe_or (pe_bm PySem.F.plainAttrs_list PySem.F.slot_list_index PySem.F.type_list_index (mt_indexD hu) ho (pa_cons he pa_nil hs) hbase hfew hline hs hplain)
    (pe_bmT PySem.F.plainAttrs_tuple PySem.F.slot_tuple_index PySem.F.type_tuple_index mt_tix ho (pa_cons he pa_nil hs) hbase hfew hline hs hplain)
theorem scal_flat {F : Hp} {v : V} {d : D} (h : Dq K F v d) (e : scalD d = true) : flatV v = true := by
  cases h with
  | non => rfl
  | bl b => rfl
  | int i => rfl
  | str x => rfl
  | lst _ _ => cases e
  | tup _ _ => cases e
theorem scal_eqv {F : Hp} {v u : V} {d e : D} (h : Dq K F v d) (h' : Dq K F u e) (hs : scalD d = true) (hs' : scalD e = true) : eqV v u = PyData.eqv d e := by
  cases h <;> first
    | (cases hs; done)
    | (cases h' <;> first
        | (cases hs'; done)
        | (simp only [eqV, PyData.eqv]; done)
        | rfl)
theorem all_scal {F : Hp} : ∀ {vs : List V} {ds : List D}, DqAll K F vs ds → ds.all scalD = true → vs.all flatV = true
  | _, _, .nil, _ => rfl
  | _, _, .cons a b, e => by
    rw [List.all_cons, Bool.and_eq_true] at e ⊢
    exact ⟨scal_flat a e.1, all_scal b e.2⟩
theorem DqAll.get' {F : Hp} : ∀ {vs : List V} {ds : List D} {i : Nat} {v : V}, DqAll K F vs ds → vs[i]? = some v → ∃ d, ds[i]? = some d ∧ Dq K F v d
  | _, _, i, d, .nil, h => by simp at h
  | _, _, 0, d, .cons a b, h => ⟨_, rfl, by simp at h; subst h; exact a⟩
  | _, _, i + 1, d, .cons a b, h => by
    obtain ⟨v, h1, h2⟩ := DqAll.get' (i := i) b (by simpa using h)
    exact ⟨v, by simpa using h1, h2⟩
theorem sd_idx (ha : SdY K ta ga) (he : SdY K te ge) : SdY K (tIdx K ta te) (y2 idxD ga ge) := by
  intro F O H pc σ ρ s d s' st h Q q
  obtain ⟨x, s1, e1, h⟩ := bO_some h
  obtain ⟨y, s2, e2, h⟩ := bO_some h
  obtain ⟨z, e3, h⟩ := mO_some h
  cases h
  unfold idxD at e3
  split at e3
  · rename_i ds
    split at e3
    · rename_i hsh
      obtain ⟨j, e4, e3⟩ := mO_some e3
      cases e3
      obtain ⟨-, z, h1, h2, h3⟩ := idxL_spec _ _ _ _ e4
      refine .inl (ha F O H pc σ ρ s _ s1 st e1 _ fun v F1 H1 n1 sr1 d1 => ?_)
      have w1 := n1.wk st.wk
      obtain ⟨p, vs, rfl, h4, h5⟩ := d1.lst_inv
      refine ⟨.inl ⟨rfl, vs, w1.l h4⟩, ?_⟩
      refine he F1 O H1 pc σ ρ s1 y _ (st.ny n1 sr1) e2 _ fun u F2 H2 n2 sr2 d2 => ?_
      have w2 := n2.wk w1
      exact ⟨p, u, y, _, j, z, rfl, rfl, ((d1.mono n2.ff).mono w2.fh).dp, (d2.mono w2.fh).dp, hsh.1, hsh.2, h1, h2, h3, q _ F2 H2 (n1.trans n2) sr2 (.int _)⟩
    · cases e3
  · rename_i ds
    split at e3
    · rename_i hsh
      obtain ⟨j, e4, e3⟩ := mO_some e3
      cases e3
      obtain ⟨-, z, h1, h2, h3⟩ := idxL_spec _ _ _ _ e4
      refine .inr (ha F O H pc σ ρ s _ s1 st e1 _ fun v F1 H1 n1 sr1 d1 => ?_)
      have w1 := n1.wk st.wk
      obtain ⟨p, vs, rfl, h4, h5⟩ := d1.tup_inv
      refine ⟨⟨p, vs, rfl, h4.mono w1.fh⟩, ?_⟩
      refine he F1 O H1 pc σ ρ s1 y _ (st.ny n1 sr1) e2 _ fun u F2 H2 n2 sr2 d2 => ?_
      have w2 := n2.wk w1
      have h5' := h5.mono n2.ff
      obtain ⟨v0, g1, g2⟩ := h5'.get h1
      have sz : scalD z = true := List.all_eq_true.mp hsh.1 z (List.mem_of_getElem? h1)
      refine ⟨p, vs, u, j, v0, rfl, rfl, w2.t (h4.mono n2.ff), scal_flat d2 hsh.2, all_scal h5' hsh.1, g1, by rw [scal_eqv g2 d2 sz hsh.2]; exact h2, fun m z' hm hm' => ?_, q _ F2 H2 (n1.trans n2) sr2 (.int _)⟩
      obtain ⟨d', k1, k2⟩ := h5'.get' hm'
      have sd : scalD d' = true := List.all_eq_true.mp hsh.1 d' (List.mem_of_getElem? k1)
      rw [scal_eqv k2 d2 sd hsh.2]
      exact h3 m d' hm k1
    · cases e3
  · cases e3

/-! ### what a loop or a comprehension walks, with its target -/
/-- the names of a target, the values in them -/
def TurnOk {α : Type} (K : PySem.W.Frag) (J : It) (g : TG) (F : Hp) (xs : List α) (bind : α → Rho → Option Rho) (js : List Nat) : Prop :=
  ∃ Yv : Nat → Hp → V → Hp → Prop, Walk J xs.length (fun H => Same F H) Yv ∧
    ∀ (i : Nat) (a : α) (x : V) (H H' Fc : Hp) (O : Om) (pc : Pc) (σ : L2.St) (ρ ρ' : Rho) (s : Src), xs[i]? = some a → Same F Fc → Stt K Fc O H pc σ ρ s → bind a ρ = some ρ' → Yv i H x H' →
      ∀ Q : L2.St → Hp → Prop, (∀ σ' F' H'', Ny O Fc H F' H'' → Stt K F' O H'' pc σ' ρ' s → (∀ vs : List Nat, (∀ j ∈ js, j ∈ vs) → wipe σ' vs = wipe σ vs) → Q σ' H'') → g x σ H' Q
def SdI {α : Type} (K : PySem.W.Frag) (wi : TI) (g : TG) (fi : Rho → Src → Option (List α × Src)) (bind : α → Rho → Option Rho) (js : List Nat) : Prop :=
  ∀ F O H pc σ ρ s xs s', Stt K F O H pc σ ρ s → fi ρ s = some (xs, s') → ∀ R : It → Hp → Prop, (∀ J F' H', Ny O F H F' H' → SrcOk O H' pc s' → TurnOk K J g F' xs bind js → R J H') → wi σ H R

theorem set_env {F H : Hp} {O : Om} {pc : Pc} {σ : L2.St} {ρ : Rho} {i : Nat} {v : V} {d : D} (e : EnvOk K F O H pc σ ρ) (h : Dq K F v d) : EnvOk K F O H pc (σ.set i (some v)) (ρ.set i (.fz d)) := by
  refine ⟨by rw [List.length_set, List.length_set]; exact e.len, fun j sl hj => ?_⟩
  by_cases hij : i = j
  · subst hij
    by_cases hl : i < ρ.length
    · rw [List.getElem?_set_self hl] at hj
      cases hj
      exact ⟨some v, by rw [List.getElem?_set_self (by rw [e.len]; exact hl)], v, rfl, h⟩
    · rw [List.getElem?_eq_none (by rw [List.length_set]; omega)] at hj
      cases hj
  · rw [List.getElem?_set_ne hij] at hj ⊢
    exact e.at_ j sl hj
theorem wipe_set {σ : L2.St} {i : Nat} {x : Option V} : ∀ {vs : List Nat}, i ∈ vs → wipe (σ.set i x) vs = wipe σ vs
  | [], h => by cases h
  | v :: vs, h => by
    unfold wipe
    by_cases hv : i ∈ vs
    · rw [wipe_set hv]
    · rcases List.mem_cons.mp h with e | h
      · subst e
        have aux : ∀ (ws : List Nat), i ∉ ws → wipe (σ.set i x) ws = (wipe σ ws).set i x := by
          intro ws
          induction ws with
          | nil => intro _; rfl
          | cons w ws ih =>
            intro hw
            unfold wipe
            rw [ih (fun z => hw (List.mem_cons_of_mem _ z)), List.set_comm]
            exact fun z => hw (by rw [z]; exact List.mem_cons_self)
        rw [aux vs hv, List.set_set]
      · exact absurd h hv
/-- one name: bound to each item -/
def bN (i : Nat) : D → Rho → Option Rho := fun d ρ => some (ρ.set i (.fz d))
/-- names of a tuple -/
def bNs : List Nat → List D → Rho → Option Rho
  | [], [], ρ => some ρ
  | i :: is, d :: ds, ρ => bNs is ds (ρ.set i (.fz d))
  | _, _, _ => none
def bTp (is : List Nat) : D → Rho → Option Rho := fun d ρ => match d with
  | .tuple ds => bNs is ds ρ
  | _ => none
def bP (i j : Nat) : D × D → Rho → Option Rho := fun p ρ => some ((ρ.set i (.fz p.1)).set j (.fz p.2))
def gNames : List Nat → TGs
  | [] => gNil
  | i :: is => gCons (gName i) (gNames is)
theorem g_names {F H : Hp} {O : Om} {pc : Pc} : ∀ {is : List Nat} {vs : List V} {ds : List D} {σ : L2.St} {ρ ρ' : Rho}, DqAll K F vs ds → EnvOk K F O H pc σ ρ → bNs is ds ρ = some ρ' → ∀ Q : L2.St → Hp → Prop,
    (∀ σ', EnvOk K F O H pc σ' ρ' → (∀ ws : List Nat, (∀ j ∈ is, j ∈ ws) → wipe σ' ws = wipe σ ws) → Q σ' H) → gNames is vs σ H Q
  | [], _, _, _, _, _, .nil, e, h, Q, q => by cases h; exact ⟨rfl, q _ e fun _ _ => rfl⟩
  | [], _, _, _, _, _, .cons _ _, e, h, Q, q => by cases h
  | i :: is, _, _, _, _, _, .nil, e, h, Q, q => by cases h
  | i :: is, _, _, _, _, _, .cons (v := v) (vs := vs) a b, e, h, Q, q => by
    refine ⟨v, vs, rfl, ?_⟩
    refine g_names b (set_env (i := i) e a) h Q fun σ' e' w => q σ' e' fun ws hw => ?_
    rw [w ws fun j hj => hw j (List.mem_cons_of_mem _ hj), wipe_set (hw i List.mem_cons_self)]
theorem Stt.set {F O H pc σ ρ s i v d} (st : Stt K F O H pc σ ρ s) (h : Dq K F v d) : Stt K F O H pc (σ.set i (some v)) (ρ.set i (.fz d)) s := ⟨st.wk, set_env st.env h, st.src⟩

/-- the items of a list or a tuple -/
def itemsD : D → Option (List D)
  | .list ds => some ds
  | .tuple ds => some ds
  | _ => none
def iY (g : Y) : Yl := fun ρ s => bO (g ρ s) fun x s1 => mO (itemsD x) fun ds => some (ds, s1)
/-- for over a list or a tuple, whichever it is -/
def iSeq (K : PySem.W.Frag) (tl : TE) : TI := fun σ H R => iList K tl σ H R ∨ iTup K tl σ H R
theorem pi_or {X : Cx} {tg e : Expr} {w w' : TI} (h : PI X tg e w) (h' : PI X tg e w') : PI X tg e (fun σ H R => w σ H R ∨ w' σ H R) :=
  ⟨fun pins s σ H R I q => q.elim (h.run pins s σ H R I) (h'.run pins s σ H R I)⟩
theorem pi_seq {X : Cx} {tg e : Expr} {t : TE} (h : PE X e t) : PI X tg e (iSeq X.K t) := pi_or (pi_list h) (pi_tup h)
/-- a target whose value is told by data alone -/
def TgOk (K : PySem.W.Frag) (g : TG) (bind : D → Rho → Option Rho) (js : List Nat) : Prop :=
  ∀ F O H pc σ ρ ρ' s v d, Stt K F O H pc σ ρ s → Dq K F v d → bind d ρ = some ρ' → ∀ Q : L2.St → Hp → Prop,
    (∀ σ', Stt K F O H pc σ' ρ' s → (∀ ws : List Nat, (∀ j ∈ js, j ∈ ws) → wipe σ' ws = wipe σ ws) → Q σ' H) → g v σ H Q
theorem tg_name (i : Nat) : TgOk K (gName i) (bN i) [i] := by
  intro F O H pc σ ρ ρ' s v d st h e Q q
  cases e
  exact q _ (st.set h) fun ws hw => wipe_set (hw i (List.mem_singleton.mpr rfl))
theorem tg_tup (is : List Nat) {n : Nat} (hn : is.length = n) : TgOk K (gTup K n (gNames is)) (bTp is) is := by
  intro F O H pc σ ρ ρ' s v d st h e Q q
  unfold bTp at e
  split at e
  · obtain ⟨p, vs, rfl, h1, h2⟩ := h.tup_inv
    have hl : ∀ (is : List Nat) (ds : List D) (ρ : Rho), bNs is ds ρ = some ρ' → is.length = ds.length := by
      intro is
      induction is with
      | nil =>
        intro ds ρ e
        cases ds with
        | nil => rfl
        | cons _ _ => cases e
      | cons i is ih =>
        intro ds ρ e
        cases ds with
        | nil => cases e
        | cons d ds => rw [List.length_cons, List.length_cons, ih ds _ e]
    refine ⟨p, vs, rfl, st.wk.t h1, by rw [h2.len, ← hl _ _ _ e]; exact hn, ?_⟩
    exact g_names h2 st.env e Q fun σ' e' w => q σ' ⟨st.wk, e', st.src⟩ w
  · cases e
theorem at_data {F : Hp} {vs : List V} {ds : List D} {i : Nat} {x : V} {a : D} (h : DqAll K F vs ds) (hx : vs[i]? = some x) (ha : ds[i]? = some a) : Dq K F x a := by
  obtain ⟨v, e1, e2⟩ := h.get ha
  rw [hx] at e1
  cases e1
  exact e2
theorem si_seq {tl : TE} {gl : Y} {g : TG} {bind : D → Rho → Option Rho} {js : List Nat} (h : SdY K tl gl) (hg : TgOk K g bind js) : SdI K (iSeq K tl) g (iY gl) bind js := by
  intro F O H pc σ ρ s xs s' st e R q
  obtain ⟨x, s1, e1, e⟩ := bO_some e
  obtain ⟨z, e2, e⟩ := mO_some e
  cases e
  unfold itemsD at e2
  split at e2
  · cases e2
    refine .inl (h F O H pc σ ρ s _ _ st e1 _ fun v F1 H1 n1 sr1 d1 => ?_)
    obtain ⟨p, vs, rfl, h1, h2⟩ := d1.lst_inv
    refine ⟨p, rfl, ⟨vs, (n1.wk st.wk).l h1⟩, q _ F1 H1 n1 sr1 ⟨YAt vs, ?_, ?_⟩⟩
    · rw [← h2.len]
      exact walk_list.mono (fun H e => SqL.of (e _ _ h1)) fun _ _ _ _ _ _ y => y
    · intro i a x H H' Fc O pc σ ρ ρ' s ha hF st2 hb hy Q k
      obtain ⟨rfl, hx⟩ := hy
      exact hg Fc O H' pc σ ρ ρ' s x a st2 (at_data (h2.mono hF) hx ha) hb Q fun σ' st3 w => k σ' Fc H' (Ny.refl st2.wk) st3 w
  · cases e2
    refine .inr (h F O H pc σ ρ s _ _ st e1 _ fun v F1 H1 n1 sr1 d1 => ?_)
    obtain ⟨p, vs, rfl, h1, h2⟩ := d1.tup_inv
    refine ⟨p, rfl, ⟨vs, (n1.wk st.wk).t h1⟩, q _ F1 H1 n1 sr1 ⟨YAt vs, ?_, ?_⟩⟩
    · rw [← h2.len]
      exact walk_tup.mono (fun H e => (h1.mono e).sq) fun _ _ _ _ _ _ y => y
    · intro i a x H H' Fc O pc σ ρ ρ' s ha hF st2 hb hy Q k
      obtain ⟨rfl, hx⟩ := hy
      exact hg Fc O H' pc σ ρ ρ' s x a st2 (at_data (h2.mono hF) hx ha) hb Q fun σ' st3 w => k σ' Fc H' (Ny.refl st2.wk) st3 w
  · cases e2
/-- over range -/
def iR1 (g : Y) : Yl := fun ρ s => bO (g ρ s) fun x s1 => match x with
  | .int n => if rgOk 0 n = true then some (rgD 0 n, s1) else none
  | _ => none
def iR2 (a b : Y) : Yl := fun ρ s => bO (a ρ s) fun x s1 => bO (b ρ s1) fun y s2 => match x, y with
  | .int i, .int j => if rgOk i j = true then some (rgD i j, s2) else none
  | _, _ => none
theorem turn_range {g : TG} {bind : D → Rho → Option Rho} {js : List Nat} {F : Hp} (hg : TgOk K g bind js) (lo hi : Int) : TurnOk K (Itr lo (hi - lo).toNat) g F (rgD lo hi) bind js := by
  have hl : (rgD lo hi).length = (hi - lo).toNat := by unfold rgD; rw [List.length_map, List.length_range]
  refine ⟨YFn fun i => .int (lo + i), ?_, ?_⟩
  · rw [hl]
    exact walk_range.mono (fun _ _ => trivial) fun _ _ _ _ _ _ y => y
  · intro i a x H H' Fc O pc σ ρ ρ' s ha hF st2 hb hy Q k
    obtain ⟨rfl, rfl⟩ := hy
    have e : a = .int (lo + i) := by
      unfold rgD at ha
      rw [List.getElem?_map] at ha
      cases z : (List.range (hi - lo).toNat)[i]? with
      | none => rw [z] at ha; cases ha
      | some j =>
        rw [z] at ha
        cases ha
        have := (List.getElem?_eq_some_iff.mp z).2
        rw [List.getElem_range] at this
        rw [this]
    subst e
    exact hg Fc O H' pc σ ρ ρ' s _ _ st2 (.int _) hb Q fun σ' st3 w => k σ' Fc H' (Ny.refl st2.wk) st3 w
theorem si_r1 {tl : TE} {gl : Y} {g : TG} {bind : D → Rho → Option Rho} {js : List Nat} (h : SdY K tl gl) (hg : TgOk K g bind js) : SdI K (iRng1 (tCons tl tNil)) g (iR1 gl) bind js := by
  intro F O H pc σ ρ s xs s' st e R q
  obtain ⟨x, s1, e1, e⟩ := bO_some e
  split at e
  · split at e
    · rename_i n hr
      cases e
      refine h F O H pc σ ρ s _ _ st e1 _ fun v F1 H1 n1 sr1 d1 => ?_
      obtain ⟨b1, b2, b3, b4, b5⟩ := rgOk_ok hr
      refine ⟨n, by rw [d1.int_inv], by omega, by omega, ?_⟩
      have t := turn_range (F := F1) hg 0 n
      rw [Int.sub_zero] at t
      exact q _ F1 H1 n1 sr1 t
    · cases e
  · cases e
theorem si_r2 {tl th : TE} {gl gh : Y} {g : TG} {bind : D → Rho → Option Rho} {js : List Nat} (h : SdY K tl gl) (h' : SdY K th gh) (hg : TgOk K g bind js) : SdI K (iRng2 (tCons tl (tCons th tNil))) g (iR2 gl gh) bind js := by
  intro F O H pc σ ρ s xs s' st e R q
  obtain ⟨x, s1, e1, e⟩ := bO_some e
  obtain ⟨y, s2, e2, e⟩ := bO_some e
  split at e
  · split at e
    · rename_i hr
      cases e
      refine h F O H pc σ ρ s _ _ st e1 _ fun v F1 H1 n1 sr1 d1 => ?_
      refine h' F1 O H1 pc σ ρ _ _ _ (st.ny n1 sr1) e2 _ fun u F2 H2 n2 sr2 d2 => ?_
      obtain ⟨b1, b2, b3, b4, b5⟩ := rgOk_ok hr
      exact ⟨_, _, by rw [d1.int_inv, d2.int_inv], ⟨by omega, by omega, by omega, by omega⟩, q _ F2 H2 (n1.trans n2) sr2 (turn_range hg _ _)⟩
    · cases e
  · cases e
/-- over pairs that are made as it goes: zip, enumerate -/
theorem turn_pair {J : It} {F : Hp} {n : Nat} {fx fy : Nat → Option V} {ps : List (D × D)} {i j : Nat} (hn : ps.length = n) (w : Walk J n (fun H => Same F H) (YPair fx fy))
    (hd : ∀ k p x y, ps[k]? = some p → fx k = some x → fy k = some y → Dq K F x p.1 ∧ Dq K F y p.2) : TurnOk K J (gTup K 2 (gNames [i, j])) F ps (bP i j) [i, j] := by
  subst hn
  refine ⟨_, w, ?_⟩
  intro k a x H H' Fc O pc σ ρ ρ' s ha hF st2 hb hy Q kk
  obtain ⟨T, u, v, rfl, hT, rfl, e1, e2⟩ := hy
  cases hb
  obtain ⟨d1, d2⟩ := hd k a u v ha e1 e2
  have n : Ny O Fc H Fc (upd H T (.tup [u, v])) := Ny.pure st2.wk (same_new hT) (Same.refl _) (st2.wk.fh.trans (same_new hT)) fun _ _ h => .inl h
  have st3 := st2.ny n (st2.src.same (same_new hT))
  refine ⟨T, [u, v], rfl, SqT.of upd_same, rfl, u, [v], rfl, v, [], rfl, rfl, ?_⟩
  refine kk _ Fc _ n ((st3.set (d1.mono hF)).set (d2.mono hF)) fun ws hw => ?_
  rw [wipe_set (hw j (by simp)), wipe_set (hw i (by simp))]
def zipL : List D → List D → List (D × D) := List.zip
def iZ (a b : Y) : Rho → Src → Option (List (D × D) × Src) := fun ρ s => bO (a ρ s) fun x s1 => bO (b ρ s1) fun y s2 => match x, y with
  | .list xs, .list ys => some (xs.zip ys, s2)
  | _, _ => none
theorem si_zip {ta tb : TE} {ga gb : Y} {i j : Nat} (h : SdY K ta ga) (h' : SdY K tb gb) : SdI K (iZip K (tCons ta (tCons tb tNil))) (gTup K 2 (gNames [i, j])) (iZ ga gb) (bP i j) [i, j] := by
  intro F O H pc σ ρ s xs s' st e R q
  obtain ⟨x, s1, e1, e⟩ := bO_some e
  obtain ⟨y, s2, e2, e⟩ := bO_some e
  split at e
  · cases e
    refine h F O H pc σ ρ s _ _ st e1 _ fun v F1 H1 n1 sr1 d1 => ?_
    refine h' F1 O H1 pc σ ρ _ _ _ (st.ny n1 sr1) e2 _ fun u F2 H2 n2 sr2 d2 => ?_
    have w2 := n2.wk (n1.wk st.wk)
    obtain ⟨p, vs, rfl, h1, h2⟩ := (d1.mono n2.ff).lst_inv
    obtain ⟨p2, ws, rfl, h3, h4⟩ := d2.lst_inv
    refine ⟨p, p2, vs, ws, rfl, w2.l h1, w2.l h3, q _ F2 H2 (n1.trans n2) sr2 (turn_pair (n := min vs.length ws.length) (fx := fun i => vs[i]?) (fy := fun i => ws[i]?) ?_ ?_ ?_)⟩
    · rw [List.length_zip, h2.len, h4.len]
    · exact (walk_zip rfl).mono (fun H e => ⟨SqL.of (e _ _ h1), SqL.of (e _ _ h3)⟩) fun _ _ _ _ _ _ y => y
    · intro k p x y hk hx hy
      rw [List.getElem?_zip_eq_some] at hk
      exact ⟨at_data h2 hx hk.1, at_data h4 hy hk.2⟩
  · cases e

/-! ### comprehensions -/
def wipeR (ρ : Rho) : List Nat → Rho
  | [] => ρ
  | v :: vs => (wipeR ρ vs).set v .un
def lcGo {α : Type} (bind : α → Rho → Option Rho) (t : Yb) (e : Y) : List α → List D → Rho → Src → Option (List D × Src)
  | [], acc, _, s => some (acc, s)
  | x :: xs, acc, ρ, s => mO (bind x ρ) fun ρ1 => bO (t ρ1 s) fun b s1 => if b = true then bO (e ρ1 s1) fun d s2 => if acc.length < lim then lcGo bind t e xs (acc ++ [d]) ρ s2 else none else lcGo bind t e xs acc ρ s1
def lcY {α : Type} (fi : Rho → Src → Option (List α × Src)) (bind : α → Rho → Option Rho) (t : Yb) (e : Y) (vs : List Nat) : Yl := fun ρ s => bO (fi ρ s) fun xs s1 => lcGo bind t e xs [] (wipeR ρ vs) s1
def yesT : Yb := fun _ s => some (true, s)
theorem st_yes : SdT K tYes yesT := by
  intro F O H pc σ ρ s b s' st e Q q
  cases e
  exact q F H (Ny.refl st.wk) st.src
theorem wipe_env {F H : Hp} {O : Om} {pc : Pc} {σ : L2.St} {ρ : Rho} (e : EnvOk K F O H pc σ ρ) : ∀ vs : List Nat, EnvOk K F O H pc (wipe σ vs) (wipeR ρ vs)
  | [] => e
  | v :: vs => by
    have ih := wipe_env e vs
    refine ⟨by unfold wipe wipeR; rw [List.length_set, List.length_set]; exact ih.len, fun j sl hj => ?_⟩
    unfold wipeR at hj
    unfold wipe
    by_cases hij : v = j
    · subst hij
      by_cases hl : v < (wipeR ρ vs).length
      · rw [List.getElem?_set_self hl] at hj
        cases hj
        exact ⟨none, by rw [List.getElem?_set_self (by rw [ih.len]; exact hl)], trivial⟩
      · rw [List.getElem?_eq_none (by rw [List.length_set]; omega)] at hj
        cases hj
    · rw [List.getElem?_set_ne hij] at hj ⊢
      exact ih.at_ j sl hj
/-- the list in the making: tracked, no one's own, not frozen -/
theorem ny_push {F H F' H' : Hp} {O : Om} {Dl : Addr} {acc : List V} {x : V} (n : Ny O F H F' H') (hF : F' Dl = none) (hO : O Dl = none) (hH : H Dl = none) : Ny O F H F' (upd H' Dl (.lst (acc ++ [x]))) where
  ff := n.ff
  fh := fun a o e => by
    by_cases ha : a = Dl
    · rw [ha, hF] at e; cases e
    · rw [upd_ne ha]; exact n.fh a o e
  own := fun a h1 h2 => by
    rw [upd_ne (fun z => h1 (by rw [z, hO]))]
    exact n.own a h1 h2
  unown := fun a o h1 h2 => by
    rw [upd_ne (fun z => by rw [z, hH] at h1; cases h1)]
    exact n.unown a o h1 h2
  dom := fun a h => by
    by_cases ha : a = Dl
    · rw [ha, upd_same]; exact fun z => nomatch z
    · rw [upd_ne ha]; exact n.dom a h
  new := n.new
theorem src_push {H : Hp} {O : Om} {pc : Pc} {s : Src} {Dl : Addr} {o : HO} (h : SrcOk O H pc s) (hO : O Dl = none) : SrcOk O (upd H Dl o) pc s := by
  cases pc with
  | none => exact h
  | some pc =>
    obtain ⟨p, c⟩ := pc
    obtain ⟨h1, h2, h3, h4, h5⟩ := h
    refine ⟨h1, h2, ?_, ?_, h5⟩
    · rw [upd_ne (fun z => by rw [z, hO] at h1; cases h1)]; exact h3
    · rw [upd_ne (fun z => by rw [z, hO] at h2; cases h2)]; exact h4
theorem sn_lc {α : Type} {wi : TI} {g : TG} {tt : TT} {te : TE} {vs js : List Nat} {fi : Rho → Src → Option (List α × Src)} {bind : α → Rho → Option Rho} {gt : Yb} {ge : Y} (hi : SdI K wi g fi bind js) (hj : ∀ j ∈ js, j ∈ vs) (ht : SdT K tt gt) (he : SdY K te ge) :
    SdN K (tLc wi g tt te vs) (lcY fi bind gt ge vs) := by
  intro F O H pc σ ρ s ds s' st e Q q
  obtain ⟨xs, s1, e1, e⟩ := bO_some e
  refine hi F O H pc σ ρ s xs s1 st e1 _ fun J F1 H1 n1 sr1 tk => ?_
  intro Dl hD
  have st1 := st.ny n1 sr1
  have hOD : O Dl = none := by
    cases z : O Dl with
    | none => rfl
    | some u => exact absurd hD (st1.wk.oh Dl (by rw [z]; exact fun z => nomatch z))
  have hFD : F1 Dl = none := st1.wk.nF hD
  have hHD : H Dl = none := by
    cases z : H Dl with
    | none => rfl
    | some u => exact absurd hD (n1.dom Dl (by rw [z]; exact fun z => nomatch z))
  obtain ⟨Yv, wk, step⟩ := tk
  -- the state between turns
  let Pv : Nat → Hp → Prop := fun i H2 => ∃ F2 s2 acc vacc, Ny O F1 H1 F2 H2 ∧ SrcOk O H2 pc s2 ∧ F2 Dl = none ∧ H2 Dl = some (.lst vacc) ∧ DqAll K F2 vacc acc ∧ lcGo bind gt ge (xs.drop i) acc (wipeR ρ vs) s2 = some (ds, s')
  refine lc_it (vs := vs) wk Pv ?_ ?_ ?_ ?_
  · refine ⟨F1, s1, [], [], Ny.pure st1.wk (same_new hD) (Same.refl _) (st1.wk.fh.trans (same_new hD)) fun _ _ h => .inl h, sr1.same (same_new hD), hFD, upd_same, .nil, ?_⟩
    rw [List.drop_zero]
    exact e
  · rintro i H2 _ ⟨F2, s2, acc, vacc, n2, _⟩
    exact n2.ff.trans n2.fh
  · rintro i x H2 H2' hlt ⟨F2, s2, acc, vacc, n2, sr2, hF2, hH2, da, ego⟩ hy
    have hxi : xs[i]? = some xs[i] := List.getElem?_eq_getElem hlt
    rw [List.drop_eq_getElem_cons hlt] at ego
    unfold lcGo at ego
    obtain ⟨ρ1, eb, ego⟩ := mO_some ego
    have st2 : Stt K F2 O H2 pc (wipe σ vs) (wipeR ρ vs) s2 := ⟨n2.wk st1.wk, wipe_env (st1.env.ny n2) vs, sr2⟩
    refine step i _ x H2 H2' F2 O pc _ _ ρ1 s2 hxi n2.ff st2 eb hy _ fun σ' F3 H3 n3 st3 hw => ?_
    have keepW : wipe σ' vs = wipe σ vs := by
      rw [hw vs hj]
      have : ∀ ws : List Nat, (∀ w ∈ ws, w ∈ vs) → wipe (wipe σ vs) ws = wipe σ vs := by
        intro ws
        induction ws with
        | nil => intro _; rfl
        | cons w ws ih =>
          intro h
          show (wipe (wipe σ vs) ws).set w none = _
          rw [ih fun z hz => h z (List.mem_cons_of_mem _ hz)]
          have hmem := h w List.mem_cons_self
          have gen : ∀ (us : List Nat), w ∈ us → (wipe σ us).set w none = wipe σ us := by
            intro us
            induction us with
            | nil => intro z; cases z
            | cons u us ih2 =>
              intro z
              unfold wipe
              by_cases huw : u = w
              · subst huw; rw [List.set_set]
              · rw [List.set_comm _ _ huw, ih2 (by rcases List.mem_cons.mp z with z | z
                                                   · exact absurd z.symm huw
                                                   · exact z)]
          exact gen vs hmem
      exact this vs fun _ h => h
    refine ⟨keepW, ?_⟩
    obtain ⟨b, s3, et, ego⟩ := bO_some ego
    refine ht F3 O H3 pc σ' ρ1 s2 b s3 st3 et _ fun F4 H4 n4 sr4 => ?_
    have st4 := st3.ny n4 sr4
    have hFn : ∀ {F' H' : Hp}, Ny O F2 H2 F' H' → F' Dl = none := fun {F' H'} n => by
      cases z : F' Dl with
      | none => rfl
      | some o =>
        rcases n.new Dl o z with h | h
        · rw [hF2] at h; cases h
        · rw [hH2] at h; cases h
    cases b with
    | false =>
      rw [if_neg Bool.false_ne_true] at ego ⊢
      exact ⟨F4, s3, acc, vacc, (n2.trans n3).trans n4, sr4, hFn (n3.trans n4), (n3.trans n4).unown _ _ hH2 hOD, (da.mono n3.ff).mono n4.ff, ego⟩
    | true =>
      rw [if_pos rfl] at ego ⊢
      obtain ⟨d, s4, ee, ego⟩ := bO_some ego
      split at ego
      · rename_i hz
        refine he F4 O H4 pc σ' ρ1 s3 d s4 st4 ee _ fun v F5 H5 n5 sr5 d5 => ?_
        have n35 := (n3.trans n4).trans n5
        refine ⟨vacc, n35.unown _ _ hH2 hOD, lim_lt (by rw [da.len]; exact hz), F5, s4, acc ++ [d], vacc ++ [v], ny_push (n2.trans n35) (hFn n35) hOD hD, src_push sr5 hOD, hFn n35, upd_same, (da.mono n35.ff).append (.cons d5 .nil), ego⟩
      · cases ego
  · rintro H2 ⟨F2, s2, acc, vacc, n2, sr2, hF2, hH2, da, ego⟩
    rw [List.drop_length] at ego
    cases ego
    exact q Dl vacc F2 H2 (n1.trans n2) sr2 hHD hF2 hH2 da
end
end DL

set_option Elab.async false
set_option linter.all false
set_option maxRecDepth 100000
set_option maxHeartbeats 4000000
/-! DL5: statements. -/
namespace DL
open PySem PySem.Spec PyProof.Rows L2

/-! ### a statement's step -/
structure Sq (F : Hp) (O : Om) (H F' : Hp) (O' : Om) (H' : Hp) : Prop where
  ff : Same F F'
  unown : ∀ a o, H a = some o → O a = none → H' a = some o ∧ O' a = none
  dom : ∀ a, H a ≠ none → H' a ≠ none
  src : ∀ a, O a = some .src → O' a = some .src
  new : ∀ a o, F' a = some o → F a = some o ∨ O a ≠ none ∨ H a = none
def PcLe (pc pc' : Pc) : Prop := pc = none ∨ pc' = pc
theorem PcLe.refl (pc : Pc) : PcLe pc pc := .inr rfl
theorem PcLe.trans {a b c : Pc} (h : PcLe a b) (h' : PcLe b c) : PcLe a c := by
  rcases h with h | h
  · exact .inl h
  · subst h; exact h'
section
variable {F F' F'' H H' H'' : Hp} {O O' O'' : Om}
theorem Sq.refl (F : Hp) (O : Om) (H : Hp) : Sq F O H F O H := ⟨Same.refl _, fun _ _ h h' => ⟨h, h'⟩, fun _ h => h, fun _ h => h, fun _ _ h => .inl h⟩
theorem Sq.trans (a : Sq F O H F' O' H') (b : Sq F' O' H' F'' O'' H'') : Sq F O H F'' O'' H'' where
  ff := a.ff.trans b.ff
  unown := fun x o h1 h2 => let ⟨h3, h4⟩ := a.unown x o h1 h2; b.unown x o h3 h4
  dom := fun x h => b.dom x (a.dom x h)
  src := fun x h => b.src x (a.src x h)
  new := fun x o h => by
    rcases b.new x o h with h | h | h
    · exact a.new x o h
    · by_cases hO : O x = none
      · cases hH : H x with
        | none => exact .inr (.inr rfl)
        | some u => exact absurd (a.unown x u hH hO).2 h
      · exact .inr (.inl hO)
    · cases hH : H x with
      | none => exact .inr (.inr rfl)
      | some u => exact absurd h (a.dom x (by rw [hH]; exact fun z => nomatch z))
theorem Ny.sq (n : Ny O F H F' H') : Sq F O H F' O H' := ⟨n.ff, fun a o h1 h2 => ⟨n.unown a o h1 h2, h2⟩, n.dom, fun _ h => h, fun a o h => (n.new a o h).elim .inl fun z => .inr (.inr z)⟩
end
inductive Fl where
  | nx (ρ : Rho) | rt (d : D) | bk (ρ : Rho) | ct (ρ : Rho)
abbrev Z := Rho → Src → Option (Fl × Src)
def EndOk (K : PySem.W.Frag) (F : Hp) (O : Om) (H : Hp) (pc : Pc) (Dn : Ends) (fl : Fl) (s' : Src) : Prop := match fl with
  | .nx ρ' => ∀ σ' F' O' H' pc', Sq F O H F' O' H' → PcLe pc pc' → Stt K F' O' H' pc' σ' ρ' s' → Dn.nx σ' H'
  | .bk ρ' => ∀ σ' F' O' H' pc', Sq F O H F' O' H' → PcLe pc pc' → Stt K F' O' H' pc' σ' ρ' s' → Dn.bk σ' H'
  | .ct ρ' => ∀ σ' F' O' H' pc', Sq F O H F' O' H' → PcLe pc pc' → Stt K F' O' H' pc' σ' ρ' s' → Dn.ct σ' H'
  | .rt d => ∀ v F' O' H' pc', Sq F O H F' O' H' → PcLe pc pc' → Wk F' O' H' → SrcOk O' H' pc' s' → Dq K F' v d → Dn.rt v H'
def SdS (K : PySem.W.Frag) (t : TS) (G : Z) : Prop := ∀ F O H pc σ ρ s fl s', Stt K F O H pc σ ρ s → G ρ s = some (fl, s') → ∀ Dn : Ends, EndOk K F O H pc Dn fl s' → t Dn σ H
section
variable {K : PySem.W.Frag} {F F' H H' : Hp} {O O' : Om} {pc pc' : Pc} {Dn : Ends} {fl : Fl} {s' : Src}
theorem EndOk.after (q : Sq F O H F' O' H') (p : PcLe pc pc') (e : EndOk K F O H pc Dn fl s') : EndOk K F' O' H' pc' Dn fl s' := by
  cases fl with
  | nx ρ => exact fun σ' F2 O2 H2 pc2 q2 p2 st => e σ' F2 O2 H2 pc2 (q.trans q2) (p.trans p2) st
  | bk ρ => exact fun σ' F2 O2 H2 pc2 q2 p2 st => e σ' F2 O2 H2 pc2 (q.trans q2) (p.trans p2) st
  | ct ρ => exact fun σ' F2 O2 H2 pc2 q2 p2 st => e σ' F2 O2 H2 pc2 (q.trans q2) (p.trans p2) st
  | rt d => exact fun v F2 O2 H2 pc2 q2 p2 w sr d => e v F2 O2 H2 pc2 (q.trans q2) (p.trans p2) w sr d
end

section
variable {K : PySem.W.Frag} {te ta tb : TE} {ge ga gb : Y} {t u : TS} {G G' : Z}
/-! ### blocks -/
def nxS : Z := fun ρ s => some (.nx ρ, s)
theorem ss_next : SdS K tNext nxS := by
  intro F O H pc σ ρ s fl s' st e Dn k
  cases e
  exact k σ F O H pc (Sq.refl _ _ _) (PcLe.refl _) st
def seqS (a b : Z) : Z := fun ρ s => match a ρ s with
  | some (.nx ρ1, s1) => b ρ1 s1
  | r => r
theorem ss_seq (h : SdS K t G) (h' : SdS K u G') : SdS K (tSeq t u) (seqS G G') := by
  intro F O H pc σ ρ s fl s' st e Dn k
  unfold seqS at e
  cases z : G ρ s with
  | none => rw [z] at e; cases e
  | some p =>
    obtain ⟨f1, s1⟩ := p
    rw [z] at e
    refine h F O H pc σ ρ s f1 s1 st z _ ?_
    cases f1 with
    | nx ρ1 => exact fun σ' F' O' H' pc' q p st' => h' F' O' H' pc' σ' ρ1 s1 fl s' st' e Dn (k.after q p)
    | rt d => cases e; exact k
    | bk ρ1 => cases e; exact k
    | ct ρ1 => cases e; exact k
def dropS (g : Y) : Z := fun ρ s => bO (g ρ s) fun _ s1 => some (.nx ρ, s1)
theorem ss_drop (h : SdY K te ge) : SdS K (tDrop te) (dropS ge) := by
  intro F O H pc σ ρ s fl s' st e Dn k
  obtain ⟨x, s1, e1, e⟩ := bO_some e
  cases e
  exact h F O H pc σ ρ s x _ st e1 _ fun v F1 H1 n1 sr1 _ => k σ F1 O H1 pc n1.sq (PcLe.refl _) (st.ny n1 sr1)
def retS (g : Y) : Z := fun ρ s => bO (g ρ s) fun d s1 => some (.rt d, s1)
theorem ss_ret (h : SdY K te ge) : SdS K (tRet te) (retS ge) := by
  intro F O H pc σ ρ s fl s' st e Dn k
  obtain ⟨x, s1, e1, e⟩ := bO_some e
  cases e
  exact h F O H pc σ ρ s x _ st e1 _ fun v F1 H1 n1 sr1 d1 => k v F1 O H1 pc n1.sq (PcLe.refl _) (n1.wk st.wk) sr1 d1
def retN : Z := fun _ s => some (.rt .none, s)
theorem ss_retN : SdS K tRetN retN := by
  intro F O H pc σ ρ s fl s' st e Dn k
  cases e
  exact k .non F O H pc (Sq.refl _ _ _) (PcLe.refl _) st.wk st.src .non
def bkS : Z := fun ρ s => some (.bk ρ, s)
def ctS : Z := fun ρ s => some (.ct ρ, s)
theorem ss_break : SdS K tBreak bkS := by
  intro F O H pc σ ρ s fl s' st e Dn k
  cases e
  exact k σ F O H pc (Sq.refl _ _ _) (PcLe.refl _) st
theorem ss_cont : SdS K tCont ctS := by
  intro F O H pc σ ρ s fl s' st e Dn k
  cases e
  exact k σ F O H pc (Sq.refl _ _ _) (PcLe.refl _) st
def ifS (c : Yb) (a b : Z) : Z := fun ρ s => bO (c ρ s) fun x s1 => if x = true then a ρ s1 else b ρ s1
theorem ss_if {tc : TT} {gc : Yb} (hc : SdT K tc gc) (h : SdS K t G) (h' : SdS K u G') : SdS K (tIfS tc t u) (ifS gc G G') := by
  intro F O H pc σ ρ s fl s' st e Dn k
  obtain ⟨x, s1, e1, e⟩ := bO_some e
  refine hc F O H pc σ ρ s x s1 st e1 _ fun F1 H1 n1 sr1 => ?_
  have k1 := k.after n1.sq (PcLe.refl _)
  cases x with
  | true =>
    rw [if_pos rfl] at e ⊢
    exact h F1 O H1 pc σ ρ s1 fl s' (st.ny n1 sr1) e Dn k1
  | false =>
    rw [if_neg Bool.false_ne_true] at e ⊢
    exact h' F1 O H1 pc σ ρ s1 fl s' (st.ny n1 sr1) e Dn k1

/-! ### stores -/
/-- what is to be stored: frozen data, or a new list of one's own -/
def NewOr (K : PySem.W.Frag) (O : Om) (H F' H' : Hp) (v : V) : Sl → Prop
  | .fz d => Dq K F' v d
  | .ow ds => ∃ p vs, v = .ref p ∧ H p = none ∧ O p = none ∧ F' p = none ∧ H' p = some (.lst vs) ∧ DqAll K F' vs ds
  | _ => False
abbrev Yu := Rho → Src → Option (Sl × Src)
def SdU (K : PySem.W.Frag) (t : TE) (g : Yu) : Prop := ∀ F O H pc σ ρ s sl s', Stt K F O H pc σ ρ s → g ρ s = some (sl, s') → ∀ Q : VK, (∀ v F' H', Ny O F H F' H' → SrcOk O H' pc s' → NewOr K O H F' H' v sl → Q v H') → t σ H Q
def fzU (g : Y) : Yu := fun ρ s => bO (g ρ s) fun d s1 => some (.fz d, s1)
def owU (g : Yl) : Yu := fun ρ s => bO (g ρ s) fun ds s1 => some (.ow ds, s1)
theorem su_fz (h : SdY K te ge) : SdU K te (fzU ge) := by
  intro F O H pc σ ρ s sl s' st e Q q
  obtain ⟨x, s1, e1, e⟩ := bO_some e
  cases e
  exact h F O H pc σ ρ s x _ st e1 _ fun v F1 H1 n1 sr1 d1 => q v F1 H1 n1 sr1 d1
theorem Wk.nO {F H : Hp} {O : Om} {p : Addr} (w : Wk F O H) (hp : H p = none) : O p = none := by
  cases z : O p with
  | none => rfl
  | some u => exact absurd hp (w.oh p (by rw [z]; exact fun z => nomatch z))
theorem su_ow {gl : Yl} (h : SdN K te gl) : SdU K te (owU gl) := by
  intro F O H pc σ ρ s sl s' st e Q q
  obtain ⟨x, s1, e1, e⟩ := bO_some e
  cases e
  exact h F O H pc σ ρ s x _ st e1 _ fun p vs F1 H1 n1 sr1 hp hF hH d1 => q (.ref p) F1 H1 n1 sr1 ⟨p, vs, rfl, hp, st.wk.nO hp, hF, hH, d1⟩
def putO (O : Om) (p : Addr) (i : Nat) : Om := fun a => if a = p then some (.sl i) else O a
theorem putO_ne {O : Om} {p a : Addr} {i : Nat} (h : a ≠ p) : putO O p i a = O a := by unfold putO; rw [if_neg h]
theorem putO_same {O : Om} {p : Addr} {i : Nat} : putO O p i p = some (.sl i) := by unfold putO; rw [if_pos rfl]
theorem SlOk.own {F H : Hp} {O O' : Om} {i : Nat} {v : Option V} {sl : Sl} {pc : Pc} (h : ∀ a, O a = some (.sl i) → O' a = some (.sl i)) (k : SlOk K F O H pc i v sl) : SlOk K F O' H pc i v sl := by
  cases sl with
  | un => trivial
  | fz d => exact k
  | ow ds =>
    obtain ⟨q, vs, h1, h2, h3⟩ := k
    exact ⟨q, vs, h1, h _ h2, h3⟩
  | o2 dss =>
    obtain ⟨q, qs, h1, h2, h3, h4, h5, h6⟩ := k
    exact ⟨q, qs, h1, h _ h2, h3, h4, h5, h6.imp fun a ds z => ⟨h _ z.1, z.2⟩⟩
  | sr => exact k
theorem set_slot {F H : Hp} {O : Om} {pc : Pc} {σ : L2.St} {ρ : Rho} {i : Nat} {v : V} {sl : Sl} (e : EnvOk K F O H pc σ ρ) (h : SlOk K F O H pc i (some v) sl) : EnvOk K F O H pc (σ.set i (some v)) (ρ.set i sl) := by
  refine ⟨by rw [List.length_set, List.length_set]; exact e.len, fun j sl' hj => ?_⟩
  by_cases hij : i = j
  · subst hij
    by_cases hl : i < ρ.length
    · rw [List.getElem?_set_self hl] at hj
      cases hj
      exact ⟨some v, by rw [List.getElem?_set_self (by rw [e.len]; exact hl)], h⟩
    · rw [List.getElem?_eq_none (by rw [List.length_set]; omega)] at hj
      cases hj
  · rw [List.getElem?_set_ne hij] at hj ⊢
    exact e.at_ j sl' hj
/-- the owners behind a store -/
def nO (O : Om) (i : Nat) (v : V) : Sl → Om
  | .ow _ => match v with
    | .ref p => putO O p i
    | _ => O
  | _ => O
/-- the store of a value at a slot -/
theorem store {F H F1 H1 : Hp} {O O1 : Om} {pc : Pc} {σ : L2.St} {ρ : Rho} {s1 : Src} {i : Nat} {v : V} {sl : Sl} (n : Sq F O H F1 O1 H1) (st : Stt K F1 O1 H1 pc σ ρ s1) (h : NewOr K O1 H F1 H1 v sl) :
    Sq F O H F1 (nO O1 i v sl) H1 ∧ Stt K F1 (nO O1 i v sl) H1 pc (σ.set i (some v)) (ρ.set i sl) s1 := by
  cases sl with
  | un => exact h.elim
  | o2 _ => exact h.elim
  | sr => exact h.elim
  | fz d => exact ⟨n, ⟨st.wk, set_slot st.env ⟨v, rfl, h⟩, st.src⟩⟩
  | ow ds =>
    obtain ⟨p, vs, rfl, h1, h2, h3, h4, h5⟩ := h
    have keep : ∀ a, O1 a ≠ none → putO O1 p i a = O1 a := fun a ha => putO_ne (fun z => ha (by rw [z]; exact h2))
    refine ⟨⟨n.ff, fun a o e1 e2 => ?_, n.dom, fun a e => ?_, n.new⟩, ⟨⟨st.wk.fh, fun a e => ?_, fun a e => ?_⟩, ?_, ?_⟩⟩
    · obtain ⟨e3, e4⟩ := n.unown a o e1 e2
      refine ⟨e3, ?_⟩
      show putO O1 p i a = none
      rw [putO_ne (fun z => by rw [z, h1] at e1; cases e1)]
      exact e4
    · have e := n.src a e
      show putO O1 p i a = _
      rw [keep a (by rw [e]; exact fun z => nomatch z)]
      exact e
    · have e : putO O1 p i a ≠ none := e
      by_cases ha : a = p
      · rw [ha]; exact h3
      · rw [putO_ne ha] at e; exact st.wk.fo a e
    · have e : putO O1 p i a ≠ none := e
      by_cases ha : a = p
      · rw [ha, h4]; exact fun z => nomatch z
      · rw [putO_ne ha] at e; exact st.wk.oh a e
    · refine set_slot ?_ ⟨p, vs, rfl, putO_same, h4, h5⟩
      refine ⟨st.env.len, fun j sl' hj => let ⟨v', k1, k2⟩ := st.env.at_ j sl' hj; ⟨v', k1, k2.own fun a e => ?_⟩⟩
      show putO O1 p i a = _
      rw [keep a (by rw [e]; exact fun z => nomatch z)]
      exact e
    · have hs := st.src
      cases pc with
      | none =>
        intro a e
        have e : putO O1 p i a = _ := e
        by_cases ha : a = p
        · rw [ha, putO_same] at e; cases e
        · rw [putO_ne ha] at e; exact hs a e
      | some pc =>
        obtain ⟨a, c⟩ := pc
        obtain ⟨k1, k2, k3, k4, k5⟩ := hs
        refine ⟨?_, ?_, k3, k4, fun b e => ?_⟩
        · show putO O1 p i a = _
          rw [keep a (by rw [k1]; exact fun z => nomatch z)]; exact k1
        · show putO O1 p i c = _
          rw [keep c (by rw [k2]; exact fun z => nomatch z)]; exact k2
        · have e : putO O1 p i b = _ := e
          by_cases ha : b = p
          · rw [ha, putO_same] at e; cases e
          · rw [putO_ne ha] at e; exact k5 b e
def asgS (i : Nat) (g : Yu) : Z := fun ρ s => bO (g ρ s) fun sl s1 => some (.nx (ρ.set i sl), s1)
theorem ss_asg {i : Nat} {gu : Yu} (h : SdU K te gu) : SdS K (tAsg te (gName i)) (asgS i gu) := by
  intro F O H pc σ ρ s fl s' st e Dn k
  obtain ⟨x, s1, e1, e⟩ := bO_some e
  cases e
  refine h F O H pc σ ρ s x _ st e1 _ fun v F1 H1 n1 sr1 d1 => ?_
  obtain ⟨q, st'⟩ := store (i := i) n1.sq (st.ny n1 sr1) d1
  exact k _ F1 _ H1 pc q (PcLe.refl _) st'
/-! a, b = e1, e2 -/
theorem NewOr.later {F1 H H1 F2 H2 : Hp} {O : Om} {v : V} {sl : Sl} (n : Ny O F1 H1 F2 H2) (h : NewOr K O H F1 H1 v sl) : NewOr K O H F2 H2 v sl := by
  cases sl with
  | un => exact h
  | o2 _ => exact h
  | sr => exact h
  | fz d => exact Dq.mono n.ff h
  | ow ds =>
    obtain ⟨p, vs, rfl, h1, h2, h3, h4, h5⟩ := h
    refine ⟨p, vs, rfl, h1, h2, ?_, n.unown _ _ h4 h2, h5.mono n.ff⟩
    cases z : F2 p with
    | none => rfl
    | some o =>
      rcases n.new p o z with w | w
      · rw [h3] at w; cases w
      · rw [h4] at w; cases w
/-- another new one, behind the store of an earlier one -/
theorem NewOr.second {F1 F2 H H0 H1 Hs H2 : Hp} {O0 Oa : Om} {i : Nat} {v u : V} {x y : Sl} (d1 : NewOr K O0 H0 F1 H1 v x) (le1 : ∀ a, H1 a ≠ none → Hs a ≠ none) (d2 : NewOr K Oa Hs F2 H2 u y) (dom : ∀ a, H a ≠ none → Hs a ≠ none) :
    NewOr K (nO Oa i v x) H F2 H2 u y := by
  cases y with
  | un => exact d2
  | o2 _ => exact d2
  | sr => exact d2
  | fz d => exact d2
  | ow ds =>
    obtain ⟨p, vs, rfl, g1, g2, g3, g4, g5⟩ := d2
    have hp : H p = none := by
      cases z : H p with
      | none => rfl
      | some o => exact absurd g1 (dom p (by rw [z]; exact fun z => nomatch z))
    refine ⟨p, vs, rfl, hp, ?_, g3, g4, g5⟩
    cases x with
    | un => exact g2
    | o2 _ => exact g2
    | sr => exact g2
    | fz d => exact g2
    | ow ds' =>
      obtain ⟨p1, vs1, rfl, k1, k2, k3, k4, k5⟩ := d1
      show putO Oa p1 i p = none
      rw [putO_ne (fun z => le1 p1 (by rw [k4]; exact fun z => nomatch z) (by rw [← z]; exact g1))]
      exact g2
def parS (i j : Nat) (a b : Yu) : Z := fun ρ s => bO (a ρ s) fun x s1 => bO (b ρ s1) fun y s2 => some (.nx ((ρ.set i x).set j y), s2)
theorem ss_par {i j : Nat} {gu gv : Yu} (h : SdU K ta gu) (h' : SdU K tb gv) : SdS K (tPar i j (tCons ta (tCons tb tNil))) (parS i j gu gv) := by
  intro F O H pc σ ρ s fl s' st e Dn k
  obtain ⟨x, s1, e1, e⟩ := bO_some e
  obtain ⟨y, s2, e2, e⟩ := bO_some e
  cases e
  refine h F O H pc σ ρ s x _ st e1 _ fun v F1 H1 n1 sr1 d1 => ?_
  have st1 := st.ny n1 sr1
  refine h' F1 O H1 pc σ ρ s1 y _ st1 e2 _ fun u F2 H2 n2 sr2 d2 => ⟨v, u, rfl, ?_⟩
  have st2 := st1.ny n2 sr2
  obtain ⟨q, st3⟩ := store (i := i) (n1.trans n2).sq st2 (d1.later n2)
  obtain ⟨q2, st4⟩ := store (i := j) q st3 (NewOr.second d1 (fun _ z => z) d2 n1.dom)
  exact k _ F2 _ H2 pc q2 (PcLe.refl _) st4
def par3S (i j l : Nat) (a b c : Yu) : Z := fun ρ s => bO (a ρ s) fun x s1 => bO (b ρ s1) fun y s2 => bO (c ρ s2) fun z s3 => some (.nx (((ρ.set i x).set j y).set l z), s3)
theorem ss_par3 {tc : TE} {i j l : Nat} {gu gv gw : Yu} (h : SdU K ta gu) (h' : SdU K tb gv) (h'' : SdU K tc gw) : SdS K (tPar3 i j l (tCons ta (tCons tb (tCons tc tNil)))) (par3S i j l gu gv gw) := by
  intro F O H pc σ ρ s fl s' st e Dn k
  obtain ⟨x, s1, e1, e⟩ := bO_some e
  obtain ⟨y, s2, e2, e⟩ := bO_some e
  obtain ⟨z, s3, e3, e⟩ := bO_some e
  cases e
  refine h F O H pc σ ρ s x _ st e1 _ fun v F1 H1 n1 sr1 d1 => ?_
  have st1 := st.ny n1 sr1
  refine h' F1 O H1 pc σ ρ s1 y _ st1 e2 _ fun u F2 H2 n2 sr2 d2 => ?_
  have st2 := st1.ny n2 sr2
  refine h'' F2 O H2 pc σ ρ s2 z _ st2 e3 _ fun w F3 H3 n3 sr3 d3 => ⟨v, u, w, rfl, ?_⟩
  have st3 := st2.ny n3 sr3
  obtain ⟨q, st4⟩ := store (i := i) ((n1.trans n2).trans n3).sq st3 ((d1.later n2).later n3)
  obtain ⟨q2, st5⟩ := store (i := j) q st4 (NewOr.second d1 (fun _ z => z) (d2.later n3) n1.dom)
  have d3' : NewOr K (nO (nO O i v x) j u y) H F3 H3 w z := NewOr.second d2 (fun _ z => z) (NewOr.second (H := H2) d1 n2.dom d3 (fun _ z => z)) (n1.trans n2).dom
  obtain ⟨q3, st6⟩ := store (i := l) q2 st5 d3'
  exact k _ F3 _ H3 pc q3 (PcLe.refl _) st6

/-! ### stores into own lists -/
theorem EnvOk.own_at {F H : Hp} {O : Om} {pc : Pc} {σ : L2.St} {ρ : Rho} {i : Nat} {ds : List D} (e : EnvOk K F O H pc σ ρ) (h : ρ[i]? = some (.ow ds)) : ∃ q vs, σ[i]? = some (some (.ref q)) ∧ O q = some (.sl i) ∧ H q = some (.lst vs) ∧ DqAll K F vs ds := by
  obtain ⟨v, h1, q, vs, rfl, h2, h3, h4⟩ := e.at_ i _ h
  exact ⟨q, vs, h1, h2, h3, h4⟩
/-- a cell of slot i is written: the other slots, the source, what is frozen are as before -/
theorem slot_keep {F H : Hp} {O : Om} {pc : Pc} {i j : Nat} {q : Addr} {o : HO} {v : Option V} {sl : Sl} (hq : O q = some (.sl i)) (hij : j ≠ i) (k : SlOk K F O H pc j v sl) : SlOk K F O (upd H q o) pc j v sl := by
  have ne : ∀ a, O a = some (.sl j) → a ≠ q := fun a h z => by
    rw [z, hq] at h
    cases h
    exact hij rfl
  cases sl with
  | un => trivial
  | fz d => exact k
  | ow ds =>
    obtain ⟨a, vs, h1, h2, h3, h4⟩ := k
    exact ⟨a, vs, h1, h2, by rw [upd_ne (ne a h2)]; exact h3, h4⟩
  | o2 dss =>
    obtain ⟨a, qs, h1, h2, h3, h4, h5, h6⟩ := k
    exact ⟨a, qs, h1, h2, by rw [upd_ne (ne a h2)]; exact h3, h4, h5, h6.imp fun b ds ⟨z1, vs, z2, z3⟩ => ⟨z1, vs, by rw [upd_ne (ne b z1)]; exact z2, z3⟩⟩
  | sr => exact k
theorem own_upd {F H : Hp} {O : Om} {pc : Pc} {σ : L2.St} {ρ : Rho} {s : Src} {i : Nat} {q : Addr} {vs : List V} {ds : List D} (st : Stt K F O H pc σ ρ s) (h1 : σ[i]? = some (some (.ref q))) (h2 : O q = some (.sl i)) (h4 : DqAll K F vs ds) :
    Sq F O H F O (upd H q (.lst vs)) ∧ Stt K F O (upd H q (.lst vs)) pc σ (ρ.set i (.ow ds)) s := by
  have hn : O q ≠ none := by rw [h2]; exact fun z => nomatch z
  have hF := st.wk.fo q hn
  refine ⟨⟨Same.refl _, fun a o e1 e2 => ⟨?_, e2⟩, fun a e => ?_, fun _ e => e, fun _ _ e => .inl e⟩, ⟨⟨fun a o e => ?_, st.wk.fo, fun a e => ?_⟩, ⟨?_, fun j sl hj => ?_⟩, ?_⟩⟩
  · rw [upd_ne (fun z => hn (by rw [← z]; exact e2))]; exact e1
  · by_cases ha : a = q
    · rw [ha, upd_same]; exact fun z => nomatch z
    · rw [upd_ne ha]; exact e
  · rw [upd_ne (fun z => by rw [z, hF] at e; cases e)]; exact st.wk.fh a o e
  · by_cases ha : a = q
    · rw [ha, upd_same]; exact fun z => nomatch z
    · rw [upd_ne ha]; exact st.wk.oh a e
  · rw [List.length_set]; exact st.env.len
  · by_cases hij : i = j
    · subst hij
      by_cases hl : i < ρ.length
      · rw [List.getElem?_set_self hl] at hj
        cases hj
        exact ⟨_, h1, q, vs, rfl, h2, upd_same, h4⟩
      · rw [List.getElem?_eq_none (by rw [List.length_set]; omega)] at hj
        cases hj
    · rw [List.getElem?_set_ne hij] at hj
      obtain ⟨v, k1, k2⟩ := st.env.at_ j sl hj
      exact ⟨v, k1, slot_keep h2 (fun z => hij z.symm) k2⟩
  · have hs := st.src
    cases pc with
    | none => exact hs
    | some pc =>
      obtain ⟨a, c⟩ := pc
      obtain ⟨k1, k2, k3, k4, k5⟩ := hs
      exact ⟨k1, k2, by rw [upd_ne (fun z => by rw [z, h2] at k1; cases k1)]; exact k3, by rw [upd_ne (fun z => by rw [z, h2] at k2; cases k2)]; exact k4, k5⟩
/-- x.append(e) -/
def appS (i : Nat) (g : Y) : Z := fun ρ s => bO (g ρ s) fun d s1 => match ρ[i]? with
  | some (.ow ds) => if ds.length < lim then some (.nx (ρ.set i (.ow (ds ++ [d]))), s1) else none
  | _ => none
theorem ss_app {i : Nat} (h : SdY K te ge) : SdS K (tDrop (tBM K "list" rAppend (tVar i) (tCons te tNil))) (appS i ge) := by
  intro F O H pc σ ρ s fl s' st e Dn k
  obtain ⟨x, s1, e1, e⟩ := bO_some e
  split at e
  · rename_i ds hi
    split at e
    · rename_i hz
      cases e
      obtain ⟨q, vs, h1, h2, h3, h4⟩ := st.env.own_at hi
      refine ⟨.ref q, h1, .inl ⟨rfl, vs, SqL.of h3⟩, ?_⟩
      refine h F O H pc σ ρ s x _ st e1 _ fun v F1 H1 n1 sr1 d1 => ?_
      have st1 := st.ny n1 sr1
      have hH1 : H1 q = some (.lst vs) := by
        rw [n1.own q (by rw [h2]; exact fun z => nomatch z) (by rw [h2]; exact fun z => nomatch z)]
        exact h3
      refine ⟨q, vs, v, rfl, rfl, hH1, lim_lt (by rw [h4.len]; exact hz), ?_⟩
      obtain ⟨q2, st2⟩ := own_upd st1 h1 h2 ((h4.mono n1.ff).append (.cons d1 .nil))
      exact k _ F1 O _ pc (n1.sq.trans q2) (PcLe.refl _) st2
    · cases e
  · cases e
/-! ### targets that may change what is owned -/
abbrev Tg := D → Rho → Src → Option (Rho × Src)
def SdG (K : PySem.W.Frag) (g : TG) (b : Tg) : Prop := ∀ F O H pc σ ρ s d v ρ' s', Stt K F O H pc σ ρ s → Dq K F v d → b d ρ s = some (ρ', s') → ∀ Q : L2.St → Hp → Prop,
  (∀ σ' F' O' H', Sq F O H F' O' H' → Stt K F' O' H' pc σ' ρ' s' → Q σ' H') → g v σ H Q
def nmG (i : Nat) : Tg := fun d ρ s => some (ρ.set i (.fz d), s)
theorem sg_name (i : Nat) : SdG K (gName i) (nmG i) := by
  intro F O H pc σ ρ s d v ρ' s' st h e Q q
  cases e
  exact q _ F O H (Sq.refl _ _ _) (st.set h)
/-- x[e] = .., x an own list -/
def subG (i : Nat) (g : Y) : Tg := fun d ρ s => bO (g ρ s) fun k s1 => match ρ[i]?, k with
  | some (.ow ds), .int n => mO (ixN ds.length n) fun j => some (ρ.set i (.ow (ds.set j d)), s1)
  | _, _ => none
theorem sg_sub {i : Nat} (h : SdY K te ge) : SdG K (gSub (tVar i) te rSetL) (subG i ge) := by
  intro F O H pc σ ρ s d v ρ' s' st hd e Q q
  obtain ⟨x, s1, e1, e⟩ := bO_some e
  split at e
  · rename_i ds n hi
    obtain ⟨j, e2, e⟩ := mO_some e
    cases e
    obtain ⟨p, vs, h1, h2, h3, h4⟩ := st.env.own_at hi
    refine ⟨.ref p, h1, ?_⟩
    refine h F O H pc σ ρ s _ _ st e1 _ fun u F1 H1 n1 sr1 d1 => ?_
    have st1 := st.ny n1 sr1
    have hH1 : H1 p = some (.lst vs) := by
      rw [n1.own p (by rw [h2]; exact fun z => nomatch z) (by rw [h2]; exact fun z => nomatch z)]
      exact h3
    refine ⟨p, vs, n, j, rfl, d1.int_inv, hH1, by rw [h4.len]; exact e2, ?_⟩
    obtain ⟨q2, st2⟩ := own_upd st1 h1 h2 (DqAll.set (hd.mono n1.ff) j (h4.mono n1.ff))
    exact q _ F1 O _ (n1.sq.trans q2) st2
  · cases e
def nilGs : List D → Rho → Src → Option (Rho × Src) := fun ds ρ s => match ds with
  | [] => some (ρ, s)
  | _ => none
def consGs (g : Tg) (r : List D → Rho → Src → Option (Rho × Src)) : List D → Rho → Src → Option (Rho × Src) := fun ds ρ s => match ds with
  | d :: ds => bO (g d ρ s) fun ρ1 s1 => r ds ρ1 s1
  | _ => none
def SdGs (K : PySem.W.Frag) (g : TGs) (b : List D → Rho → Src → Option (Rho × Src)) : Prop := ∀ F O H pc σ ρ s ds vs ρ' s', Stt K F O H pc σ ρ s → DqAll K F vs ds → b ds ρ s = some (ρ', s') → ∀ Q : L2.St → Hp → Prop,
  (∀ σ' F' O' H', Sq F O H F' O' H' → Stt K F' O' H' pc σ' ρ' s' → Q σ' H') → g vs σ H Q
theorem sgs_nil : SdGs K gNil nilGs := by
  intro F O H pc σ ρ s ds vs ρ' s' st h e Q q
  unfold nilGs at e
  split at e
  · cases e
    cases h
    exact ⟨rfl, q _ F O H (Sq.refl _ _ _) st⟩
  · cases e
theorem sgs_cons {g : TG} {gs : TGs} {b : Tg} {bs : List D → Rho → Src → Option (Rho × Src)} (h : SdG K g b) (h' : SdGs K gs bs) : SdGs K (gCons g gs) (consGs b bs) := by
  intro F O H pc σ ρ s ds vs ρ' s' st hd e Q q
  unfold consGs at e
  split at e
  · obtain ⟨ρ1, s1, e1, e⟩ := bO_some e
    cases hd with
    | cons a t =>
      refine ⟨_, _, rfl, ?_⟩
      refine h F O H pc σ ρ s _ _ ρ1 s1 st a e1 _ fun σ1 F1 O1 H1 q1 st1 => ?_
      exact h' F1 O1 H1 pc σ1 ρ1 s1 _ _ ρ' s' st1 (t.mono q1.ff) e Q fun σ2 F2 O2 H2 q2 st2 => q σ2 F2 O2 H2 (q1.trans q2) st2
  · cases e
def tupG (n : Nat) (b : List D → Rho → Src → Option (Rho × Src)) : Tg := fun d ρ s => match d with
  | .tuple ds => if ds.length = n then b ds ρ s else none
  | _ => none
theorem sg_tup {n : Nat} {gs : TGs} {bs : List D → Rho → Src → Option (Rho × Src)} (h : SdGs K gs bs) : SdG K (gTup K n gs) (tupG n bs) := by
  intro F O H pc σ ρ s d v ρ' s' st hd e Q q
  unfold tupG at e
  split at e
  · split at e
    · rename_i hn
      obtain ⟨p, vs, rfl, h1, h2⟩ := hd.tup_inv
      exact ⟨p, vs, rfl, st.wk.t h1, by rw [h2.len]; exact hn, h F O H pc σ ρ s _ _ ρ' s' st h2 e Q q⟩
    · cases e
  · cases e
def asgGS (g : Y) (b : Tg) : Z := fun ρ s => bO (g ρ s) fun d s1 => bO (b d ρ s1) fun ρ1 s2 => some (.nx ρ1, s2)
theorem ss_asgG {g : TG} {b : Tg} (h : SdY K te ge) (hg : SdG K g b) : SdS K (tAsg te g) (asgGS ge b) := by
  intro F O H pc σ ρ s fl s' st e Dn k
  obtain ⟨x, s1, e1, e⟩ := bO_some e
  obtain ⟨ρ1, s2, e2, e⟩ := bO_some e
  cases e
  refine h F O H pc σ ρ s x _ st e1 _ fun v F1 H1 n1 sr1 d1 => ?_
  exact hg F1 O H1 pc σ ρ s1 x v ρ1 _ (st.ny n1 sr1) d1 e2 _ fun σ2 F2 O2 H2 q2 st2 => k σ2 F2 O2 H2 pc (n1.sq.trans q2) (PcLe.refl _) st2
/-! ### x += e -/
def augS (f : Int → Int → Int) (i : Nat) (g : Y) : Z := fun ρ s => match ρ[i]? with
  | some (.fz (.int a)) => bO (g ρ s) fun d s1 => match d with
    | .int b => some (.nx (ρ.set i (.fz (.int (f a b)))), s1)
    | _ => none
  | _ => none
theorem ss_aug {f : Int → Int → Int} {i : Nat} (h : SdY K te ge) : SdS K (tAug i te (ipI f)) (augS f i ge) := by
  intro F O H pc σ ρ s fl s' st e Dn k
  unfold augS at e
  split at e
  · rename_i a hi
    obtain ⟨x, s1, e1, e⟩ := bO_some e
    split at e
    · cases e
      obtain ⟨v, h1, w, rfl, h2⟩ := st.env.at_ i _ hi
      refine ⟨w, h1, ?_⟩
      refine h F O H pc σ ρ s _ _ st e1 _ fun u F1 H1 n1 sr1 d1 => ⟨_, _, h2.int_inv, d1.int_inv, ?_⟩
      exact k _ F1 O H1 pc n1.sq (PcLe.refl _) ((st.ny n1 sr1).set (.int _))
    · cases e
  · cases e

/-! ### what is owned is frozen -/
def frzR (i : Nat) (ρ : Rho) : Rho := match ρ[i]? with
  | some (.ow ds) => ρ.set i (.fz (.list ds))
  | some (.o2 dss) => ρ.set i (.fz (.list (dss.map .list)))
  | _ => ρ
def inB (S : List Addr) (a : Addr) : Bool := decide (a ∈ S)
theorem freeze {F H : Hp} {O : Om} {pc : Pc} {σ : L2.St} {ρ : Rho} {s : Src} {i : Nat} {S : List Addr} {d : D} {v : V} (st : Stt K F O H pc σ ρ s) (hS : ∀ a ∈ S, O a = some (.sl i)) (hv : σ[i]? = some (some v))
    (hd : ∀ F', Same F F' → (∀ a ∈ S, F' a = H a) → Dq K F' v d) : ∃ F' O', Sq F O H F' O' H ∧ Stt K F' O' H pc σ (ρ.set i (.fz d)) s := by
  have nF : ∀ a ∈ S, F a = none := fun a h => st.wk.fo a (by rw [hS a h]; exact fun z => nomatch z)
  have sF : Same F (fun a => if a ∈ S then H a else F a) := fun a o e => by
    show (if a ∈ S then H a else F a) = some o
    rw [if_neg (fun z => by rw [nF a z] at e; cases e)]
    exact e
  have kO : ∀ a w, O a = some w → w ≠ .sl i → (if a ∈ S then none else O a) = some w := fun a w e hw => by
    rw [if_neg (fun z => by rw [hS a z] at e; cases e; exact hw rfl)]
    exact e
  refine ⟨fun a => if a ∈ S then H a else F a, fun a => if a ∈ S then none else O a, ⟨sF, fun a o e1 e2 => ⟨e1, ?_⟩, fun _ h => h, fun a e => kO a _ e (fun z => nomatch z), fun a o e => ?_⟩, ⟨⟨fun a o e => ?_, fun a e => ?_, fun a e => ?_⟩, ⟨?_, fun j sl hj => ?_⟩, ?_⟩⟩
  · show (if a ∈ S then none else O a) = none
    split
    · rfl
    · exact e2
  · have e : (if a ∈ S then H a else F a) = some o := e
    split at e
    · rename_i h
      exact .inr (.inl (by rw [hS a h]; exact fun z => nomatch z))
    · exact .inl e
  · have e : (if a ∈ S then H a else F a) = some o := e
    split at e
    · exact e
    · exact st.wk.fh a o e
  · have e : (if a ∈ S then none else O a) ≠ none := e
    show (if a ∈ S then H a else F a) = none
    split at e
    · exact absurd rfl e
    · rename_i h
      rw [if_neg h]
      exact st.wk.fo a e
  · have e : (if a ∈ S then none else O a) ≠ none := e
    split at e
    · exact absurd rfl e
    · exact st.wk.oh a e
  · rw [List.length_set]; exact st.env.len
  · by_cases hij : i = j
    · subst hij
      by_cases hl : i < ρ.length
      · rw [List.getElem?_set_self hl] at hj
        cases hj
        exact ⟨_, hv, v, rfl, hd _ sF fun a h => by show (if a ∈ S then H a else F a) = H a; rw [if_pos h]⟩
      · rw [List.getElem?_eq_none (by rw [List.length_set]; omega)] at hj
        cases hj
    · rw [List.getElem?_set_ne hij] at hj
      obtain ⟨w, k1, k2⟩ := st.env.at_ j sl hj
      refine ⟨w, k1, ?_⟩
      have oj : ∀ a, O a = some (.sl j) → (if a ∈ S then none else O a) = some (.sl j) := fun a e => kO a _ e (fun z => by cases z; exact hij rfl)
      cases sl with
      | un => trivial
      | fz d' =>
        obtain ⟨x, h3, h4⟩ := k2
        exact ⟨x, h3, h4.mono sF⟩
      | ow ds =>
        obtain ⟨q, vs, h3, h4, h5, h6⟩ := k2
        exact ⟨q, vs, h3, oj _ h4, h5, h6.mono sF⟩
      | o2 dss =>
        obtain ⟨q, qs, h3, h4, h5, h6, h7, h8⟩ := k2
        exact ⟨q, qs, h3, oj _ h4, h5, h6, h7, h8.imp fun a ds ⟨z1, vs, z2, z3⟩ => ⟨oj _ z1, vs, z2, z3.mono sF⟩⟩
      | sr => exact k2
  · have hs := st.src
    have os : ∀ a, (if a ∈ S then none else O a) = some Ow.src → O a = some .src := fun a e => by
      split at e
      · cases e
      · exact e
    cases pc with
    | none => exact fun a e => hs a (os a e)
    | some pc =>
      obtain ⟨a, c⟩ := pc
      obtain ⟨k1, k2, k3, k4, k5⟩ := hs
      exact ⟨kO a _ k1 (fun z => nomatch z), kO c _ k2 (fun z => nomatch z), k3, k4, fun b e => k5 b (os b e)⟩
theorem frz_st {F H : Hp} {O : Om} {pc : Pc} {σ : L2.St} {ρ : Rho} {s : Src} (i : Nat) (st : Stt K F O H pc σ ρ s) : ∃ F' O', Sq F O H F' O' H ∧ Stt K F' O' H pc σ (frzR i ρ) s := by
  unfold frzR
  split
  · rename_i ds hi
    obtain ⟨q, vs, h1, h2, h3, h4⟩ := st.env.own_at hi
    refine freeze (S := [q]) st (fun a h => by rw [List.mem_singleton.mp h]; exact h2) h1 fun F' e hF => .lst (vs := vs) ?_ (h4.mono e)
    rw [hF q (List.mem_singleton.mpr rfl)]
    exact h3
  · rename_i dss hi
    obtain ⟨v, h1, q, qs, rfl, h2, h3, h4, h5, h6⟩ := st.env.at_ i _ hi
    have hq : ∀ a ∈ qs, O a = some (.sl i) := by
      clear hi h3 h4 h5
      induction h6 with
      | nil => intro a h; cases h
      | cons a b ih =>
        intro x h
        rcases List.mem_cons.mp h with h | h
        · rw [h]; exact a.1
        · exact ih x h
    refine freeze (S := q :: qs) st (fun a h => ?_) h1 fun F' e hF => .lst (vs := qs.map V.ref) ?_ ?_
    · rcases List.mem_cons.mp h with h | h
      · rw [h]; exact h2
      · exact hq a h
    · rw [hF q List.mem_cons_self]
      exact h3
    · have hF' : ∀ a ∈ qs, F' a = H a := fun a h => hF a (List.mem_cons_of_mem _ h)
      clear hi h3 h4 h5 hq hF
      induction h6 with
      | nil => exact .nil
      | cons a b ih =>
        obtain ⟨z1, vs, z2, z3⟩ := a
        refine .cons (.lst (vs := vs) ?_ (z3.mono e)) (ih fun a h => hF' a (List.mem_cons_of_mem _ h))
        rw [hF' _ List.mem_cons_self]
        exact z2
  · exact ⟨F, O, Sq.refl _ _ _, st⟩
def frzS (i : Nat) (G : Z) : Z := fun ρ s => G (frzR i ρ) s
theorem ss_frz (i : Nat) (h : SdS K t G) : SdS K t (frzS i G) := by
  intro F O H pc σ ρ s fl s' st e Dn k
  obtain ⟨F', O', q, st'⟩ := frz_st i st
  exact h F' O' H pc σ _ s fl s' st' e Dn (k.after q (PcLe.refl _))

/-! ### loops -/
def forGo {α : Type} (bind : α → Rho → Option Rho) (G : Z) : List α → Rho → Src → Option (Fl × Src)
  | [], ρ, s => some (.nx ρ, s)
  | x :: xs, ρ, s => mO (bind x ρ) fun ρ1 => bO (G ρ1 s) fun fl s1 => match fl with
    | .nx ρ2 => forGo bind G xs ρ2 s1
    | .ct ρ2 => forGo bind G xs ρ2 s1
    | .bk ρ2 => some (.nx ρ2, s1)
    | .rt d => some (.rt d, s1)
def forS {α : Type} (fi : Rho → Src → Option (List α × Src)) (bind : α → Rho → Option Rho) (G : Z) : Z := fun ρ s => bO (fi ρ s) fun xs s1 => forGo bind G xs ρ s1
theorem ss_for {α : Type} {wi : TI} {g : TG} {js : List Nat} {fi : Rho → Src → Option (List α × Src)} {bind : α → Rho → Option Rho} (hi : SdI K wi g fi bind js) (h : SdS K t G) : SdS K (tFor wi g t) (forS fi bind G) := by
  intro F O H pc σ ρ s fl s' st e Dn k
  obtain ⟨xs, s1, e1, e⟩ := bO_some e
  refine hi F O H pc σ ρ s xs s1 st e1 _ fun J F1 H1 n1 sr1 tk => ?_
  have st1 := st.ny n1 sr1
  obtain ⟨Yv, wk, step⟩ := tk
  let Pv : Nat → L2.St → Hp → Prop := fun i σ2 H2 => ∃ F2 O2 pc2 ρ2 s2, Sq F1 O H1 F2 O2 H2 ∧ PcLe pc pc2 ∧ Stt K F2 O2 H2 pc2 σ2 ρ2 s2 ∧ forGo bind G (xs.drop i) ρ2 s2 = some (fl, s')
  refine for_it wk Pv ⟨F1, O, pc, ρ, s1, Sq.refl _ _ _, PcLe.refl _, st1, by rw [List.drop_zero]; exact e⟩ ?_ ?_ ?_
  · rintro i σ2 H2 _ ⟨F2, O2, pc2, ρ2, s2, q2, _, st2, _⟩
    exact q2.ff.trans st2.wk.fh
  · rintro i x σ2 H2 H2' hlt ⟨F2, O2, pc2, ρ2, s2, q2, p2, st2, ego⟩ hy
    have hxi : xs[i]? = some xs[i] := List.getElem?_eq_getElem hlt
    rw [List.drop_eq_getElem_cons hlt] at ego
    unfold forGo at ego
    obtain ⟨ρ3, eb, ego⟩ := mO_some ego
    refine step i _ x H2 H2' F2 O2 pc2 σ2 ρ2 ρ3 s2 hxi q2.ff st2 eb hy _ fun σ3 F3 H3 n3 st3 _ => ?_
    obtain ⟨f4, s4, eg, ego⟩ := bO_some ego
    have q3 := q2.trans n3.sq
    refine h F3 O2 H3 pc2 σ3 ρ3 s2 f4 s4 st3 eg _ ?_
    have kk := k.after (n1.sq.trans q3) p2
    cases f4 with
    | nx ρ4 => exact fun σ' F' O' H' pc' q p st' => ⟨F', O', pc', ρ4, s4, q3.trans q, p2.trans p, st', ego⟩
    | ct ρ4 => exact fun σ' F' O' H' pc' q p st' => ⟨F', O', pc', ρ4, s4, q3.trans q, p2.trans p, st', ego⟩
    | bk ρ4 =>
      cases ego
      exact kk
    | rt d =>
      cases ego
      exact kk
  · rintro σ2 H2 ⟨F2, O2, pc2, ρ2, s2, q2, p2, st2, ego⟩
    rw [List.drop_length] at ego
    cases ego
    exact k σ2 F2 O2 H2 pc2 (n1.sq.trans q2) p2 st2
def whGo (c : Yb) (G : Z) : Nat → Rho → Src → Option (Fl × Src)
  | 0, _, _ => none
  | n + 1, ρ, s => bO (c ρ s) fun b s1 => if b = true then bO (G ρ s1) fun fl s2 => match fl with
      | .nx ρ2 => whGo c G n ρ2 s2
      | .ct ρ2 => whGo c G n ρ2 s2
      | .bk ρ2 => some (.nx ρ2, s2)
      | .rt d => some (.rt d, s2)
    else some (.nx ρ, s1)
def fuel : Nat := 1000000
def whS (c : Yb) (G : Z) : Z := fun ρ s => whGo c G (fuel + s.cells.length) ρ s
theorem ss_while {tc : TT} {gc : Yb} (hc : SdT K tc gc) (h : SdS K t G) : SdS K (tWhile tc t) (whS gc G) := by
  intro F O H pc σ ρ s fl s' st e Dn k
  refine ⟨fun m σ2 H2 => ∃ F2 O2 pc2 ρ2 s2, Sq F O H F2 O2 H2 ∧ PcLe pc pc2 ∧ Stt K F2 O2 H2 pc2 σ2 ρ2 s2 ∧ whGo gc G m ρ2 s2 = some (fl, s'), ⟨fuel + s.cells.length, F, O, pc, ρ, s, Sq.refl _ _ _, PcLe.refl _, st, e⟩, ?_⟩
  rintro m σ2 H2 ⟨F2, O2, pc2, ρ2, s2, q2, p2, st2, ego⟩
  cases m with
  | zero => cases ego
  | succ m =>
    unfold whGo at ego
    obtain ⟨b, s3, eb, ego⟩ := bO_some ego
    refine hc F2 O2 H2 pc2 σ2 ρ2 s2 b s3 st2 eb _ fun F3 H3 n3 sr3 => ?_
    have st3 := st2.ny n3 sr3
    have q3 := q2.trans n3.sq
    cases b with
    | false =>
      rw [if_neg Bool.false_ne_true] at ego ⊢
      cases ego
      exact k σ2 F3 O2 H3 pc2 q3 p2 st3
    | true =>
      rw [if_pos rfl] at ego ⊢
      obtain ⟨f4, s4, eg, ego⟩ := bO_some ego
      let N : L2.St → Hp → Prop := fun σ' H' => ∃ F' O' pc' ρ' s'', Sq F O H F' O' H' ∧ PcLe pc pc' ∧ Stt K F' O' H' pc' σ' ρ' s'' ∧ whGo gc G m ρ' s'' = some (fl, s')
      refine ⟨N, fun σ' H' hN => ⟨m, Nat.lt_succ_self m, hN⟩, ?_⟩
      refine h F3 O2 H3 pc2 σ2 ρ2 s3 f4 s4 st3 eg _ ?_
      have kk := k.after q3 p2
      cases f4 with
      | nx ρ4 => exact fun σ' F' O' H' pc' q p st' => ⟨F', O', pc', ρ4, s4, q3.trans q, p2.trans p, st', ego⟩
      | ct ρ4 => exact fun σ' F' O' H' pc' q p st' => ⟨F', O', pc', ρ4, s4, q3.trans q, p2.trans p, st', ego⟩
      | bk ρ4 =>
        cases ego
        exact kk
      | rt d =>
        cases ego
        exact kk
end
end DL

set_option Elab.async false
set_option linter.all false
set_option maxRecDepth 100000
set_option maxHeartbeats 4000000
/-! DL6: defs and calls. -/
namespace DL
open PySem PySem.Spec PyProof.Rows L2

/-- a def that changes nothing: its value's data by its arguments' -/
def spP (K : PySem.W.Frag) (n : Nat) (m : List D → Option D) : Sp := fun vs H Q _ => ∃ F ds d, Same F H ∧ DqAll K F vs ds ∧ ds.length = n ∧ m ds = some d ∧ QK K F H Q d
/-- a def that draws from the source, its first argument -/
def spY (K : PySem.W.Frag) (n : Nat) (m : List D → Src → Option (D × Src)) : Sp := fun vs H Q _ => ∃ p c rest F ds s d s', vs = .ref p :: rest ∧ Same F H ∧ F p = none ∧ F c = none ∧ H p = some (.dK (s.kvs c)) ∧ H c = some (.lst (s.cells.map V.int)) ∧
  DqAll K F rest ds ∧ ds.length = n ∧ m ds s = some (d, s') ∧
  ∀ v F' H', (∀ a o, a ≠ p → a ≠ c → H a = some o → H' a = some o) → H' p = some (.dK (s'.kvs c)) → H' c = some (.lst (s'.cells.map V.int)) → Same F F' → Same F' H' → F' p = none → F' c = none → (∀ a o, F' a = some o → F a = some o ∨ H a = none) → Dq K F' v d → Q v H'

def dummy : Src := ⟨[], 0, 0, 0⟩
def iniR (ds : List D) (k : Nat) : Rho := ds.map .fz ++ List.replicate k .un
def outD : Option (Fl × Src) → Option D
  | some (.rt d, _) => some d
  | some (.nx _, _) => some .none
  | _ => none
def outY : Option (Fl × Src) → Option (D × Src)
  | some (.rt d, s) => some (d, s)
  | some (.nx _, s) => some (.none, s)
  | _ => none
def runD (G : Z) (k : Nat) : List D → Option D := fun ds => outD (G (iniR ds k) dummy)
def runY (G : Z) (k : Nat) : List D → Src → Option (D × Src) := fun ds s => outY (G (.sr :: iniR ds k) s)

section
variable {K : PySem.W.Frag}
theorem start_at {N : List Str} {vs : List V} {ds : List D} {k : Nat} {F : Hp} (hv : DqAll K F vs ds) (hN : N.length = vs.length + k) : (L2.start N vs).length = (iniR ds k).length ∧ ∀ (i : Nat) (sl : Sl), (iniR ds k)[i]? = some sl → ∃ v, (L2.start N vs)[i]? = some v ∧ (sl = Sl.un ∨ ∃ d x, sl = Sl.fz d ∧ v = some x ∧ Dq K F x d) := by
  have hl := hv.len
  unfold L2.start iniR
  refine ⟨by simp only [List.length_append, List.length_map, List.length_replicate]; omega, fun i sl h => ?_⟩
  by_cases hi : i < ds.length
  · rw [List.getElem?_append_left (by rw [List.length_map]; exact hi), List.getElem?_map, List.getElem?_eq_getElem hi] at h
    cases h
    obtain ⟨x, h1, h2⟩ := hv.get (List.getElem?_eq_getElem hi)
    refine ⟨some x, ?_, .inr ⟨_, x, rfl, rfl, h2⟩⟩
    rw [List.getElem?_append_left (by rw [List.length_map]; omega), List.getElem?_map, h1]
    rfl
  · rw [List.getElem?_append_right (by rw [List.length_map]; omega), List.length_map, List.getElem?_replicate] at h
    split at h
    · rename_i hk
      cases h
      refine ⟨none, ?_, .inl rfl⟩
      rw [List.getElem?_append_right (by rw [List.length_map]; omega), List.length_map, List.getElem?_replicate, if_pos (by omega)]
    · cases h

variable {P : Program} {w : World} {mg : Str → Option Value} {base : Heap}
/-- a def by its body -/
theorem def_P {x qual : Str} {st : Stmt} {f : Addr} {fd : FuncData} {N ps : List Str} {k kk n : Nat} {G : Z} (Fn : Fun K x qual st f fd) (S : FnScope N ps (defScope st)) (hn : ps.length = n) (hN : N.length = n + kk)
    (body : ∀ (cdv : Value) (A : Around) (outer : List Env) (s : Shared) (H : Hp) (E : XK), Room k (A.deeper (envOfC qual (defScope st) s.heap.objs.size f cdv)) →
      ∃ t, PSs (cxOf CX0 P w K mg base N qual (defScope st) f cdv A outer s H E).nox (defBody st) t ∧ SdS K t G) : FnOk P w K mg base CX0 (k + 1) f fd ps (spP K n (runD G kk)) := by
  refine Fn.ok S (fun vs H Q E h => ?_) (fun cdv A outer s H vs Q E hr h => ?_)
  · obtain ⟨F, ds, d, h1, h2, h3, h4, h5⟩ := h
    rw [h2.len, h3, hn]
  · obtain ⟨F, ds, d, h1, h2, h3, h4, h5⟩ := h
    obtain ⟨t, hp, hs⟩ := body cdv A outer s H E hr
    refine ⟨t, hp, ?_⟩
    obtain ⟨e1, e2⟩ := start_at (N := N) (k := kk) h2 (by rw [h2.len, h3]; exact hN)
    have st : Stt K F (fun _ => none) H none (L2.start N vs) (iniR ds kk) dummy := by
      refine ⟨⟨h1, fun a z => absurd rfl z, fun a z => absurd rfl z⟩, ⟨e1, fun i sl hi => ?_⟩, fun a z => nomatch z⟩
      obtain ⟨v, g1, g2⟩ := e2 i sl hi
      refine ⟨v, g1, ?_⟩
      rcases g2 with rfl | ⟨d', y, rfl, rfl, g3⟩
      · trivial
      · exact ⟨y, rfl, g3⟩
    unfold runD outD at h4
    have fin : ∀ v F' O' H', Sq F (fun _ => none) H F' O' H' → Wk F' O' H' → Dq K F' v d → Q v H' := fun v F' O' H' q wk dq =>
      h5 v F' H' (fun a o e => (q.unown a o e rfl).1) q.ff wk.fh (fun a o e => (q.new a o e).elim .inl fun z => z.elim (fun y => absurd rfl y) .inr) dq
    split at h4
    · rename_i d' s' eg
      cases h4
      exact hs F _ H none _ _ dummy _ s' st eg _ fun v F' O' H' pc' q p wk sr dq => fin v F' O' H' q wk dq
    · rename_i ρ' s' eg
      cases h4
      exact hs F _ H none _ _ dummy _ s' st eg _ fun σ' F' O' H' pc' q p st' => fin .non F' O' H' q st'.wk .non
    · cases h4
/-- a def that draws, by its body -/
theorem def_Y {x qual : Str} {st : Stmt} {f : Addr} {fd : FuncData} {N ps : List Str} {k kk n : Nat} {G : Z} (Fn : Fun K x qual st f fd) (S : FnScope N ps (defScope st)) (hn : ps.length = n + 1) (hN : N.length = n + 1 + kk)
    (body : ∀ (cdv : Value) (A : Around) (outer : List Env) (s : Shared) (H : Hp) (E : XK), Room k (A.deeper (envOfC qual (defScope st) s.heap.objs.size f cdv)) →
      ∃ t, PSs (cxOf CX0 P w K mg base N qual (defScope st) f cdv A outer s H E).nox (defBody st) t ∧ SdS K t G) : FnOk P w K mg base CX0 (k + 1) f fd ps (spY K n (runY G kk)) := by
  refine Fn.ok S (fun vs H Q E h => ?_) (fun cdv A outer s H vs Q E hr h => ?_)
  · obtain ⟨p, c, rest, F, ds, s, d, s', rfl, _, _, _, _, _, h2, h3, _⟩ := h
    rw [List.length_cons, h2.len, h3, hn]
  · obtain ⟨p, c, rest, F, ds, s1, d, s', rfl, h1, hFp, hFc, hp, hc, h2, h3, h4, h5⟩ := h
    obtain ⟨t, hpp, hs⟩ := body cdv A outer s H E hr
    refine ⟨t, hpp, ?_⟩
    have hpc : p ≠ c := ne_of hp hc (fun z => nomatch z)
    let O : Om := fun a => if a = p then some .src else if a = c then some .src else none
    have Op : O p = some .src := by show (if p = p then _ else _) = _; rw [if_pos rfl]
    have Oc : O c = some .src := by show (if c = p then _ else _) = _; rw [if_neg hpc.symm, if_pos rfl]
    have On : ∀ a, O a ≠ none → a = p ∨ a = c := fun a z => by
      by_cases h1 : a = p
      · exact .inl h1
      · by_cases h2 : a = c
        · exact .inr h2
        · exact absurd (show O a = none by show (if a = p then _ else _) = _; rw [if_neg h1, if_neg h2]) z
    have Oz : ∀ a, a ≠ p → a ≠ c → O a = none := fun a h1 h2 => by show (if a = p then _ else _) = _; rw [if_neg h1, if_neg h2]
    cases N with
    | nil => rw [List.length_nil] at hN; omega
    | cons N0 N =>
    obtain ⟨e1, e2⟩ := start_at (N := N) (k := kk) h2 (by rw [h2.len, h3]; rw [List.length_cons] at hN; omega)
    have es : L2.start (N0 :: N) (.ref p :: rest) = some (.ref p) :: L2.start N rest := by
      unfold L2.start
      rw [List.map_cons, List.length_cons, List.length_cons, Nat.add_sub_add_right]
      rfl
    have st : Stt K F O H (some (p, c)) (L2.start (N0 :: N) (.ref p :: rest)) (.sr :: iniR ds kk) s1 := by
      refine ⟨⟨h1, fun a z => ?_, fun a z => ?_⟩, ⟨?_, fun i sl hi => ?_⟩, Op, Oc, hp, hc, fun a z => On a (by rw [z]; exact fun y => nomatch y)⟩
      · rcases On a z with rfl | rfl
        · exact hFp
        · exact hFc
      · rcases On a z with rfl | rfl
        · rw [hp]; exact fun y => nomatch y
        · rw [hc]; exact fun y => nomatch y
      · rw [es, List.length_cons, List.length_cons, e1]
      · rw [es]
        cases i with
        | zero =>
          cases hi
          exact ⟨_, rfl, p, c, rfl, rfl⟩
        | succ i =>
          rw [List.getElem?_cons_succ] at hi
          obtain ⟨v, g1, g2⟩ := e2 i sl hi
          refine ⟨v, by rw [List.getElem?_cons_succ]; exact g1, ?_⟩
          rcases g2 with rfl | ⟨d', y, rfl, rfl, g3⟩
          · trivial
          · exact ⟨y, rfl, g3⟩
    unfold runY outY at h4
    have fin : ∀ v F' O' H' pc', Sq F O H F' O' H' → PcLe (some (p, c)) pc' → Wk F' O' H' → SrcOk O' H' pc' s' → Dq K F' v d → Q v H' := fun v F' O' H' pc' q pl wk sr dq => by
      rcases pl with z | z
      · cases z
      · subst z
        obtain ⟨k1, k2, k3, k4, k5⟩ := sr
        refine h5 v F' H' (fun a o z1 z2 e => (q.unown a o e (Oz a z1 z2)).1) k3 k4 q.ff wk.fh (wk.fo p (by rw [k1]; exact fun y => nomatch y)) (wk.fo c (by rw [k2]; exact fun y => nomatch y)) (fun a o e => ?_) dq
        rcases q.new a o e with z | z | z
        · exact .inl z
        · rcases On a z with rfl | rfl
          · rw [wk.fo _ (by rw [k1]; exact fun y => nomatch y)] at e; cases e
          · rw [wk.fo _ (by rw [k2]; exact fun y => nomatch y)] at e; cases e
        · exact .inr z
    split at h4
    · rename_i d' s2 eg
      cases h4
      exact hs F O H (some (p, c)) _ _ s1 _ s' st eg _ fun v F' O' H' pc' q pl wk sr dq => fin v F' O' H' pc' q pl wk sr dq
    · rename_i ρ' s2 eg
      cases h4
      exact hs F O H (some (p, c)) _ _ s1 _ s' st eg _ fun σ' F' O' H' pc' q pl st' => fin .non F' O' H' pc' q pl st'.wk st'.src .non
    · cases h4

/-! ### calls -/
def callY (n : Nat) (m : List D → Option D) (g : Yl) : Y := fun ρ s => bO (g ρ s) fun ds s1 => if ds.length = n then mO (m ds) fun d => some (d, s1) else none
theorem sd_call {n : Nat} {m : List D → Option D} {ta : TA} {ga : Yl} {E : XK} (h : SdA K ta ga) : SdY K (tCall (spP K n m) [] E ta) (callY n m ga) := by
  intro F O H pc σ ρ s d s' st e Q q
  obtain ⟨ds, s1, e1, e⟩ := bO_some e
  split at e
  · rename_i hn
    obtain ⟨z, e2, e⟩ := mO_some e
    cases e
    refine h F O H pc σ ρ s ds _ st e1 _ fun vs F1 H1 n1 sr1 d1 => ?_
    rw [List.append_nil]
    have w1 := n1.wk st.wk
    exact ⟨F1, ds, d, w1.fh, d1, hn, e2, fun v F' H' a b c' e f => q v F' H' (n1.trans (Ny.pure w1 a b c' e)) (sr1.same a) f⟩
  · cases e
def drawY (i n : Nat) (m : List D → Src → Option (D × Src)) (g : Yl) : Y := fun ρ s => match ρ[i]? with
  | some .sr => bO (g ρ s) fun ds s1 => if ds.length = n then m ds s1 else none
  | _ => none
theorem sd_draw {i n : Nat} {m : List D → Src → Option (D × Src)} {ta : TA} {ga : Yl} {E : XK} (h : SdA K ta ga) : SdY K (tCall (spY K n m) [] E (tCons (tVar i) ta)) (drawY i n m ga) := by
  intro F O H pc σ ρ s d s' st e Q q
  unfold drawY at e
  split at e
  · rename_i hi
    obtain ⟨ds, s1, e1, e⟩ := bO_some e
    split at e
    · rename_i hn
      obtain ⟨v, h1, p, c, rfl, rfl⟩ := st.env.at_ i _ hi
      refine ⟨.ref p, h1, ?_⟩
      refine h F O H _ σ ρ s ds s1 st e1 _ fun vs F1 H1 n1 sr1 d1 => ?_
      have w1 := n1.wk st.wk
      obtain ⟨k1, k2, k3, k4, k5⟩ := sr1
      have ne1 : O p ≠ none := by rw [k1]; exact fun z => nomatch z
      have ne2 : O c ≠ none := by rw [k2]; exact fun z => nomatch z
      refine ⟨p, c, vs, F1, ds, s1, d, s', by rw [List.append_nil], w1.fh, w1.fo p ne1, w1.fo c ne2, k3, k4, d1, hn, e, fun v F' H' a1 a2 a3 a4 a5 a6 a7 a8 dq => ?_⟩
      have n2 : Ny O F1 H1 F' H' := by
        refine ⟨a4, a5, fun a z1 z2 => ?_, fun a o z1 z2 => a1 a o (fun y => ne1 (by rw [← y]; exact z2)) (fun y => ne2 (by rw [← y]; exact z2)) z1, fun a z => ?_, a8⟩
        · cases z : H1 a with
          | none => exact absurd z (w1.oh a z1)
          | some o => exact a1 a o (fun y => z2 (by rw [y]; exact k1)) (fun y => z2 (by rw [y]; exact k2)) z
        · by_cases y1 : a = p
          · rw [y1, a2]; exact fun y => nomatch y
          · by_cases y2 : a = c
            · rw [y2, a3]; exact fun y => nomatch y
            · cases zz : H1 a with
              | none => exact absurd zz z
              | some o => rw [a1 a o y1 y2 zz]; exact fun y => nomatch y
      exact q v F' H' (n1.trans n2) ⟨k1, k2, a2, a3, k5⟩ dq
    · cases e
  · cases e

/-! ### the source, made -/
def spMk (K : PySem.W.Frag) (mk : List Int → Src) : Sp := fun vs H Q _ => ∃ a ns, vs = [.ref a] ∧ SqL K H a (ns.map V.int) ∧ ns.length ≤ 63 ∧
  ∀ p c H', H p = none → H c = none → p ≠ c → Same H H' → H' p = some (.dK ((mk ns).kvs c)) → H' c = some (.lst ((mk ns).cells.map V.int)) → Q (.ref p) H'
/-- source = _law_source(script), at the law's entry: slot i -/
def mkS (i : Nat) (src : Src) (G : Z) : Rho → Option (Fl × Src) := fun ρ => G (ρ.set i .sr) src
theorem ss_mk {mk : List Int → Src} {i j : Nat} {E : XK} {t : TS} {G : Z} {F H : Hp} {σ : L2.St} {ρ : Rho} {a : Addr} {ns : List Int} {fl : Fl} {s' : Src} (ht : SdS K t G) (wk : Same F H) (env : EnvOk K F (fun _ => none) H none σ ρ)
    (hj : σ[j]? = some (some (.ref a))) (ha : SqL K H a (ns.map V.int)) (hl : ns.length ≤ 63) (hi : i < ρ.length) (e : G (ρ.set i .sr) (mk ns) = some (fl, s')) (Dn : Ends)
    (k : ∀ F1 O1 H1 pc1, (∀ b o, H b = some o → H1 b = some o ∧ O1 b = none) → Same F F1 → Same F1 H1 → EndOk K F1 O1 H1 pc1 Dn fl s') :
    tSeq (tAsg (tCall (spMk K mk) [] E (tCons (tVar j) tNil)) (gName i)) t Dn σ H := by
  refine ⟨.ref a, hj, a, ns, rfl, ha, hl, fun p c H1 hp hc hpc sm h1 h2 => ?_⟩
  let O : Om := fun b => if b = p then some .src else if b = c then some .src else none
  have Op : O p = some .src := by show (if p = p then _ else _) = _; rw [if_pos rfl]
  have Oc : O c = some .src := by show (if c = p then _ else _) = _; rw [if_neg hpc.symm, if_pos rfl]
  have On : ∀ a, O a ≠ none → a = p ∨ a = c := fun a z => by
    by_cases h1 : a = p
    · exact .inl h1
    · by_cases h2 : a = c
      · exact .inr h2
      · exact absurd (show O a = none by show (if a = p then _ else _) = _; rw [if_neg h1, if_neg h2]) z
  have Oz : ∀ a, a ≠ p → a ≠ c → O a = none := fun a h1 h2 => by show (if a = p then _ else _) = _; rw [if_neg h1, if_neg h2]
  have nF : ∀ b, H b = none → F b = none := fun b hb => by
    cases z : F b with
    | none => rfl
    | some o => rw [wk b o z] at hb; cases hb
  have st : Stt K F O H1 (some (p, c)) (σ.set i (some (.ref p))) (ρ.set i .sr) (mk ns) := by
    refine ⟨⟨wk.trans sm, fun b z => ?_, fun b z => ?_⟩, ⟨?_, fun l sl hl => ?_⟩, Op, Oc, h1, h2, fun b z => On b (by rw [z]; exact fun y => nomatch y)⟩
    · rcases On b z with rfl | rfl
      · exact nF _ hp
      · exact nF _ hc
    · rcases On b z with rfl | rfl
      · rw [h1]; exact fun y => nomatch y
      · rw [h2]; exact fun y => nomatch y
    · rw [List.length_set, List.length_set]; exact env.len
    · by_cases hil : i = l
      · subst hil
        rw [List.getElem?_set_self hi] at hl
        cases hl
        exact ⟨some (.ref p), by rw [List.getElem?_set_self (by rw [env.len]; exact hi)], p, c, rfl, rfl⟩
      · rw [List.getElem?_set_ne hil] at hl ⊢
        obtain ⟨v, g1, g2⟩ := env.at_ l sl hl
        refine ⟨v, g1, ?_⟩
        cases sl with
        | un => trivial
        | fz d => exact g2
        | ow ds =>
          obtain ⟨q, vs, _, g4, _⟩ := g2
          cases g4
        | o2 dss =>
          obtain ⟨q, vs, _, g4, _⟩ := g2
          cases g4
        | sr =>
          obtain ⟨q, vs, _, g4⟩ := g2
          cases g4
  refine ht F O H1 (some (p, c)) _ _ (mk ns) fl s' st e Dn (k F O H1 _ (fun b o hb => ⟨sm b o hb, Oz b (fun z => ?_) (fun z => ?_)⟩) (Same.refl _) (wk.trans sm))
  · rw [z, hp] at hb; cases hb
  · rw [z, hc] at hb; cases hb
end
end DL

set_option Elab.async false
set_option linter.all false
set_option maxRecDepth 100000
set_option maxHeartbeats 4000000
/-! DL7: the laws' source: what it draws. -/
namespace DL
open PySem PySem.Spec PyProof.Rows L2

def mixI (ns : List Int) (m : Int) : Int := ns.foldl (fun m c => (m * 69069 + c * 31 + 5) % 2147483629) m
def absI (c : Int) : Int := if c < 0 then -c else c
def mkSrc (ns : List Int) : Src := ⟨(ns.map absI).reverse, 1, mixI ns 11, 0⟩
theorem mixI_snoc (ns : List Int) (c m : Int) : mixI (ns ++ [c]) m = (mixI ns m * 69069 + c * 31 + 5) % 2147483629 := by
  unfold mixI
  rw [List.foldl_append]
  rfl
theorem mixI_lt (ns : List Int) (m : Int) (h0 : 0 ≤ m) (h1 : m < 2147483629) : 0 ≤ mixI ns m ∧ mixI ns m < 2147483629 := by
  induction ns generalizing m with
  | nil => exact ⟨h0, h1⟩
  | cons c ns ih =>
    show 0 ≤ mixI ns ((m * 69069 + c * 31 + 5) % 2147483629) ∧ mixI ns ((m * 69069 + c * 31 + 5) % 2147483629) < 2147483629
    exact ih _ (Int.emod_nonneg _ (by decide)) (Int.emod_lt_of_pos _ (by decide))

/-- the cells are taken as long as nothing is left of the present one -/
def refill (many : Int) : Nat → Src → Src
  | 0, s => s
  | n + 1, s => if many > 1 ∧ s.left < 2 ∧ s.cells ≠ [] then refill many n { s with cells := s.cells.dropLast, left := s.cells.getLastD 0 } else s
def mx1 (many : Int) : Int := if many > 1 then many else 1
theorem mx1_eq (many : Int) : (if many > (1 : Int) then many else 1) = mx1 many := rfl
/-- a number from 0 to many - 1 -/
def pickP (many : Int) (s : Src) : Int × Src :=
  let s1 := refill many s.cells.length s
  if many < 2 ∨ s1.left > 1 then (s1.left.fmod (mx1 many), { s1 with left := s1.left.fdiv (mx1 many) })
  else
    let turn := s1.turn + 1
    let mixed := (s1.mixed + turn * 104729) % 998244353
    let mixed2 := (mixed * mixed + turn * 17) % 2147483647
    ((mixed2.fdiv 16).fmod many, { s1 with turn := turn, mixed := mixed2 })
def pickM : List D → Src → Option (D × Src)
  | [.int many], s => if many < 1000000 then some (.int (pickP many s).1, (pickP many s).2) else none
  | _, _ => none
theorem mx1_pos (many : Int) : 0 < mx1 many := by unfold mx1; split <;> omega
theorem pick_range (many : Int) (s : Src) : 0 ≤ (pickP many s).1 ∧ (pickP many s).1 < mx1 many := by
  unfold pickP
  have hp := mx1_pos many
  dsimp only
  split
  · rw [Int.fmod_eq_emod_of_nonneg _ (by omega)]
    exact ⟨Int.emod_nonneg _ (by omega), Int.emod_lt_of_pos _ hp⟩
  · rename_i h
    have h2 : 2 ≤ many := by omega
    have e : mx1 many = many := by unfold mx1; rw [if_pos (by omega)]
    dsimp only
    rw [e, Int.fmod_eq_emod_of_nonneg _ (by omega)]
    exact ⟨Int.emod_nonneg _ (by omega), Int.emod_lt_of_pos _ (by omega)⟩
/-- the things in a drawn order -/
def mixedGo : Nat → List D → Src → List D × Src
  | 0, _, s => ([], s)
  | n + 1, rest, s =>
    let p := pickP rest.length s
    let r := mixedGo n (rest.eraseIdx p.1.toNat) p.2
    ((rest[p.1.toNat]?).getD .none :: r.1, r.2)
def mixedM : List D → Src → Option (D × Src)
  | [.list ds], s => if ds.length < 1000 then some (.list (mixedGo ds.length ds s).1, (mixedGo ds.length ds s).2) else none
  | [.tuple ds], s => if ds.length < 1000 then some (.list (mixedGo ds.length ds s).1, (mixedGo ds.length ds s).2) else none
  | _, _ => none
theorem refill_eq (many : Int) (s : Src) : ∀ n, s.cells.length ≤ n → refill many n s = refill many s.cells.length s := by
  intro n
  induction n generalizing s with
  | zero => intro h; rw [Nat.le_zero.mp h]
  | succ n ih =>
    intro h
    cases hc : s.cells with
    | nil =>
      show refill many (n + 1) s = s
      unfold refill
      rw [if_neg (fun z => z.2.2 hc)]
    | cons c cs =>
      rw [List.length_cons]
      unfold refill
      split
      · have hl : s.cells.dropLast.length = cs.length := by rw [List.length_dropLast, hc, List.length_cons]; omega
        have h1 := ih { s with cells := s.cells.dropLast, left := s.cells.getLastD 0 } (by show s.cells.dropLast.length ≤ n; rw [hl]; rw [hc, List.length_cons] at h; omega)
        rw [h1]
        show refill many s.cells.dropLast.length _ = _
        rw [hl]
      · rfl
theorem refill_go {many : Int} {s : Src} (h : many > 1 ∧ s.left < 2 ∧ s.cells ≠ []) : refill many s.cells.length s = refill many (s.cells.dropLast).length { s with cells := s.cells.dropLast, left := s.cells.getLastD 0 } := by
  cases hc : s.cells with
  | nil => exact absurd hc h.2.2
  | cons c cs =>
    rw [List.length_cons]
    unfold refill
    rw [if_pos h, List.length_dropLast, List.length_cons, hc]
    rw [Nat.add_sub_cancel]
    cases cs.length <;> rfl
theorem refill_stop {many : Int} {s : Src} (h : ¬ (many > 1 ∧ s.left < 2 ∧ s.cells ≠ [])) : refill many s.cells.length s = s := by
  cases hc : s.cells with
  | nil => rfl
  | cons c cs =>
    rw [List.length_cons]
    unfold refill
    rw [if_neg h]

/-! ### the source's dict -/
def kC : Key := .inr "cells"
def kL : Key := .inr "left"
def kM : Key := .inr "mixed"
def kT : Key := .inr "turn"
theorem src_get {s : Src} {c : Addr} : valV (s.kvs c) kC = some (.ref c) ∧ valV (s.kvs c) kL = some (.int s.left) ∧ valV (s.kvs c) kM = some (.int s.mixed) ∧ valV (s.kvs c) kT = some (.int s.turn) := by
  refine ⟨?_, ?_, ?_, ?_⟩ <;> rfl
theorem src_put {s : Src} {c : Addr} {z : Int} : putK (s.kvs c) kL (.int z) = ({ s with left := z } : Src).kvs c ∧ putK (s.kvs c) kM (.int z) = ({ s with mixed := z } : Src).kvs c ∧ putK (s.kvs c) kT (.int z) = ({ s with turn := z } : Src).kvs c := by
  refine ⟨?_, ?_, ?_⟩ <;> rfl

section
variable {K : PySem.W.Frag} {te : TE} {ge : Y}
def rdS (i : Nat) (f : Src → Int) : Y := fun ρ s => match ρ[i]? with
  | some .sr => some (.int (f s), s)
  | _ => none
theorem sd_left (i : Nat) : SdY K (tDGet (tVar i) (tC (.str "left"))) (rdS i Src.left) := by
  intro F O H pc σ ρ s d s' st e Q q
  unfold rdS at e
  split at e
  · rename_i hi
    cases e
    obtain ⟨v, h1, p, c, rfl, rfl⟩ := st.env.at_ i _ hi
    have g := DGet.k (k := kL) st.src.2.2.1
    rw [src_get.2.1] at g
    exact ⟨_, h1, p, _, rfl, g, q _ F H (Ny.refl st.wk) st.src (.int _)⟩
  · cases e
theorem sd_mixed (i : Nat) : SdY K (tDGet (tVar i) (tC (.str "mixed"))) (rdS i Src.mixed) := by
  intro F O H pc σ ρ s d s' st e Q q
  unfold rdS at e
  split at e
  · rename_i hi
    cases e
    obtain ⟨v, h1, p, c, rfl, rfl⟩ := st.env.at_ i _ hi
    have g := DGet.k (k := kM) st.src.2.2.1
    rw [src_get.2.2.1] at g
    exact ⟨_, h1, p, _, rfl, g, q _ F H (Ny.refl st.wk) st.src (.int _)⟩
  · cases e
theorem sd_turn (i : Nat) : SdY K (tDGet (tVar i) (tC (.str "turn"))) (rdS i Src.turn) := by
  intro F O H pc σ ρ s d s' st e Q q
  unfold rdS at e
  split at e
  · rename_i hi
    cases e
    obtain ⟨v, h1, p, c, rfl, rfl⟩ := st.env.at_ i _ hi
    have g := DGet.k (k := kT) st.src.2.2.1
    rw [src_get.2.2.2] at g
    exact ⟨_, h1, p, _, rfl, g, q _ F H (Ny.refl st.wk) st.src (.int _)⟩
  · cases e
theorem sd_lenC (i : Nat) : SdY K (tCB (rLen K) (tCons (tDGet (tVar i) (tC (.str "cells"))) tNil)) (rdS i fun s => s.cells.length) := by
  intro F O H pc σ ρ s d s' st e Q q
  unfold rdS at e
  split at e
  · rename_i hi
    cases e
    obtain ⟨v, h1, p, c, rfl, rfl⟩ := st.env.at_ i _ hi
    have g := DGet.k (k := kC) st.src.2.2.1
    rw [src_get.1] at g
    refine ⟨_, h1, p, _, rfl, g, c, _, rfl, .inl (SqL.of st.src.2.2.2.1), ?_⟩
    rw [List.length_map]
    exact q _ F H (Ny.refl st.wk) st.src (.int _)
  · cases e
/-! source[..] = e -/
theorem src_write {F H : Hp} {O : Om} {σ : L2.St} {ρ : Rho} {s s2 : Src} {p c : Addr} {o : HO} (st : Stt K F O H (some (p, c)) σ ρ s) (ho : o = .dK (s2.kvs c)) (hcells : s2.cells = s.cells) :
    Sq F O H F O (upd H p o) ∧ Stt K F O (upd H p o) (some (p, c)) σ ρ s2 := by
  subst ho
  obtain ⟨k1, k2, k3, k4, k5⟩ := st.src
  have hn : O p ≠ none := by rw [k1]; exact fun z => nomatch z
  have hF := st.wk.fo p hn
  have hpc : p ≠ c := ne_of k3 k4 (fun z => nomatch z)
  refine ⟨⟨Same.refl _, fun a o e1 e2 => ⟨?_, e2⟩, fun a e => ?_, fun _ e => e, fun _ _ e => .inl e⟩, ⟨⟨fun a o e => ?_, st.wk.fo, fun a e => ?_⟩, ⟨st.env.len, fun j sl hj => ?_⟩, k1, k2, upd_same, ?_, k5⟩⟩
  · rw [upd_ne (fun z => hn (by rw [← z]; exact e2))]; exact e1
  · by_cases ha : a = p
    · rw [ha, upd_same]; exact fun z => nomatch z
    · rw [upd_ne ha]; exact e
  · rw [upd_ne (fun z => by rw [z, hF] at e; cases e)]; exact st.wk.fh a o e
  · by_cases ha : a = p
    · rw [ha, upd_same]; exact fun z => nomatch z
    · rw [upd_ne ha]; exact st.wk.oh a e
  · obtain ⟨v, g1, g2⟩ := st.env.at_ j sl hj
    refine ⟨v, g1, ?_⟩
    have ne : ∀ a, O a = some (.sl j) → a ≠ p := fun a h z => by rw [z, k1] at h; cases h
    cases sl with
    | un => trivial
    | fz d => exact g2
    | ow ds =>
      obtain ⟨a, vs, z1, z2, z3, z4⟩ := g2
      exact ⟨a, vs, z1, z2, by rw [upd_ne (ne a z2)]; exact z3, z4⟩
    | o2 dss =>
      obtain ⟨a, qs, z1, z2, z3, z4, z5, z6⟩ := g2
      exact ⟨a, qs, z1, z2, by rw [upd_ne (ne a z2)]; exact z3, z4, z5, z6.imp fun b ds ⟨y1, vs, y2, y3⟩ => ⟨y1, vs, by rw [upd_ne (ne b y1)]; exact y2, y3⟩⟩
    | sr => exact g2
  · rw [upd_ne hpc.symm, hcells]; exact k4
def wrS (i : Nat) (f : Src → Int → Src) (g : Y) : Z := fun ρ s => bO (g ρ s) fun d s1 => match ρ[i]?, d with
  | some .sr, .int z => some (.nx ρ, f s1 z)
  | _, _ => none
theorem ss_wr {i : Nat} {f : Src → Int → Src} {key : Str} {k : Key} (hk : kV k = .str key) (hp : ∀ (s : Src) (c : Addr) (z : Int), putK (s.kvs c) k (.int z) = (f s z).kvs c) (hc : ∀ s z, (f s z).cells = s.cells) (h : SdY K te ge) :
    SdS K (sDPut (tVar i) (tC (.str key)) te) (wrS i f ge) := by
  intro F O H pc σ ρ s fl s' st e Dn kk
  obtain ⟨x, s1, e1, e⟩ := bO_some e
  split at e
  · rename_i z hi
    cases e
    refine h F O H pc σ ρ s _ s1 st e1 _ fun v F1 H1 n1 sr1 d1 => ?_
    have st1 := st.ny n1 sr1
    obtain ⟨w, h1, p, c, rfl, rfl⟩ := st1.env.at_ i _ hi
    have e3 := st1.src.2.2.1
    refine ⟨_, h1, p, upd H1 p (.dK (putK (s1.kvs c) k v)), rfl, ?_, ?_⟩
    · rw [← hk]
      exact DPut.k e3 (by show 4 < sizeLine; decide)
    · rw [d1.int_inv, hp s1 c]
      obtain ⟨q, st2⟩ := src_write (s2 := f s1 _) st1 rfl (hc s1 _)
      exact kk σ F1 O _ _ (n1.sq.trans q) (PcLe.refl _) st2
  · cases e
theorem ss_wrL {i : Nat} (h : SdY K te ge) : SdS K (sDPut (tVar i) (tC (.str "left")) te) (wrS i (fun s z => { s with left := z }) ge) := ss_wr (k := kL) rfl (fun _ _ _ => src_put.1) (fun _ _ => rfl) h
theorem ss_wrM {i : Nat} (h : SdY K te ge) : SdS K (sDPut (tVar i) (tC (.str "mixed")) te) (wrS i (fun s z => { s with mixed := z }) ge) := ss_wr (k := kM) rfl (fun _ _ _ => src_put.2.1) (fun _ _ => rfl) h
theorem ss_wrT {i : Nat} (h : SdY K te ge) : SdS K (sDPut (tVar i) (tC (.str "turn")) te) (wrS i (fun s z => { s with turn := z }) ge) := ss_wr (k := kT) rfl (fun _ _ _ => src_put.2.2) (fun _ _ => rfl) h
/-! source["left"] = source["cells"].pop() -/
theorem cells_write {F H : Hp} {O : Om} {σ : L2.St} {ρ : Rho} {s s2 : Src} {p c : Addr} (st : Stt K F O H (some (p, c)) σ ρ s) (h2 : s2.left = s.left ∧ s2.mixed = s.mixed ∧ s2.turn = s.turn) :
    Sq F O H F O (upd H c (.lst (s2.cells.map V.int))) ∧ Stt K F O (upd H c (.lst (s2.cells.map V.int))) (some (p, c)) σ ρ s2 := by
  obtain ⟨k1, k2, k3, k4, k5⟩ := st.src
  have hn : O c ≠ none := by rw [k2]; exact fun z => nomatch z
  have hF := st.wk.fo c hn
  have hpc : p ≠ c := ne_of k3 k4 (fun z => nomatch z)
  refine ⟨⟨Same.refl _, fun a o e1 e2 => ⟨?_, e2⟩, fun a e => ?_, fun _ e => e, fun _ _ e => .inl e⟩, ⟨⟨fun a o e => ?_, st.wk.fo, fun a e => ?_⟩, ⟨st.env.len, fun j sl hj => ?_⟩, k1, k2, ?_, upd_same, k5⟩⟩
  · rw [upd_ne (fun z => hn (by rw [← z]; exact e2))]; exact e1
  · by_cases ha : a = c
    · rw [ha, upd_same]; exact fun z => nomatch z
    · rw [upd_ne ha]; exact e
  · rw [upd_ne (fun z => by rw [z, hF] at e; cases e)]; exact st.wk.fh a o e
  · by_cases ha : a = c
    · rw [ha, upd_same]; exact fun z => nomatch z
    · rw [upd_ne ha]; exact st.wk.oh a e
  · obtain ⟨v, g1, g2⟩ := st.env.at_ j sl hj
    refine ⟨v, g1, ?_⟩
    have ne : ∀ a, O a = some (.sl j) → a ≠ c := fun a h z => by rw [z, k2] at h; cases h
    cases sl with
    | un => trivial
    | fz d => exact g2
    | ow ds =>
      obtain ⟨a, vs, z1, z2, z3, z4⟩ := g2
      exact ⟨a, vs, z1, z2, by rw [upd_ne (ne a z2)]; exact z3, z4⟩
    | o2 dss =>
      obtain ⟨a, qs, z1, z2, z3, z4, z5, z6⟩ := g2
      exact ⟨a, qs, z1, z2, by rw [upd_ne (ne a z2)]; exact z3, z4, z5, z6.imp fun b ds ⟨y1, vs, y2, y3⟩ => ⟨y1, vs, by rw [upd_ne (ne b y1)]; exact y2, y3⟩⟩
    | sr => exact g2
  · rw [upd_ne hpc, k3]
    unfold Src.kvs
    rw [h2.1, h2.2.1, h2.2.2]
def popC (i : Nat) : Z := fun ρ s => match ρ[i]? with
  | some .sr => if s.cells = [] then none else some (.nx ρ, { s with cells := s.cells.dropLast, left := s.cells.getLastD 0 })
  | _ => none
theorem ss_popC (i : Nat) : SdS K (sDPut (tVar i) (tC (.str "left")) (tBM0 K "list" rPop (tDGet (tVar i) (tC (.str "cells"))))) (popC i) := by
  intro F O H pc σ ρ s fl s' st e Dn kk
  unfold popC at e
  split at e
  · rename_i hi
    split at e
    · cases e
    · rename_i hne
      cases e
      obtain ⟨v, h1, p, c, rfl, rfl⟩ := st.env.at_ i _ hi
      have g := DGet.k (k := kC) st.src.2.2.1
      rw [src_get.1] at g
      have hc := st.src.2.2.2.1
      have el : (s.cells.map V.int)[(s.cells.map V.int).length - 1]? = some (.int (s.cells.getLastD 0)) := by
        rw [List.length_map, List.getElem?_map, ← List.getLast?_eq_getElem?, List.getLastD_eq_getLast?]
        cases z : s.cells.getLast? with
        | none => exact absurd (List.getLast?_eq_none_iff.mp z) hne
        | some y => rfl
      refine ⟨_, h1, p, _, rfl, g, .inl ⟨rfl, _, SqL.of hc⟩, c, _, _, rfl, rfl, hc, el, ?_⟩
      rw [← List.map_dropLast]
      obtain ⟨q1, st1⟩ := cells_write (s2 := { s with cells := s.cells.dropLast }) st ⟨rfl, rfl, rfl⟩
      obtain ⟨w, h1', p', c', e1, e2⟩ := st1.env.at_ i _ hi
      have e3 := st1.src.2.2.1
      refine ⟨_, h1, p, _, rfl, DPut.k (k := kL) e3 (by show 4 < sizeLine; decide), ?_⟩
      rw [src_put.1]
      obtain ⟨q2, st2⟩ := src_write (s2 := { s with cells := s.cells.dropLast, left := s.cells.getLastD 0 }) st1 rfl rfl
      exact kk σ F O _ _ (q1.trans q2) (PcLe.refl _) st2
  · cases e
end
end DL

set_option Elab.async false
set_option linter.all false
set_option maxRecDepth 100000
set_option maxHeartbeats 4000000
/-! DL8: calls by name, chains, the other ways round, pairs of targets. -/
namespace DL
open PySem PySem.Spec PyProof.Rows L2

theorem room65 {A : Around} {k : Nat} (hr : Room k A) : A.units + 65 < cLine := by have := hr.un; omega
/-- a def that can be called by its name -/
structure Cal (P : Program) (w : World) (K : PySem.W.Frag) (mg : Str → Option Value) (base : Heap) (k : Nat) (x : Str) (ps : List Str) (sp : Sp) : Prop where
  ex : ∃ f fd, FnOk P w K mg base CX0 k f fd ps sp ∧ Binds K fd ps [] ∧ mg x = some (.ref f) ∧ PySem.W.keepIn K (.ref f) = true
theorem Cal.mono {P : Program} {w : World} {K : PySem.W.Frag} {mg : Str → Option Value} {base : Heap} {j k : Nat} {x : Str} {ps : List Str} {sp : Sp} (C : Cal P w K mg base j x ps sp) (h : j ≤ k) : Cal P w K mg base k x ps sp := by
  obtain ⟨f, fd, h1, h2⟩ := C.ex
  exact ⟨f, fd, h1.mono h, h2⟩
section
variable {X : Cx} {k : Nat} {x : Str} {ps : List Str} {sp : Sp} {p pos : Pos} {e : Expr} {es : List Expr} {t : TA}
theorem pe_cal (C : Cal X.prog X.w X.K X.mg X.base k x ps sp) (hr : Room k X.A) (hg : Gl X x) (ha : PA X (e :: es) t) (hdb : (x == ("__debug__" : Str)) = false := by decide)
    (he : starEach (e :: es) X.env = (false, eval e X.env) :: starEach es X.env := by rfl) (hpl : (backTo pos (starEach es X.env)).any (·.1) = false := by rfl) :
    PE X (.Call (.Name x p) (e :: es) [] pos) (tCall sp [] E0 t) := by
  obtain ⟨f, fd, h1, h2, h3, h4⟩ := C.ex
  exact pe_call h1 hr hg h3 h4 h2 .nil pass0 ha hdb he hpl
theorem pe_cal0 (C : Cal X.prog X.w X.K X.mg X.base k x ps sp) (hr : Room k X.A) (hg : Gl X x) (hdb : (x == ("__debug__" : Str)) = false := by decide) :
    PE X (.Call (.Name x p) [] [] pos) (tCall sp [] E0 tNil) := by
  obtain ⟨f, fd, h1, h2, h3, h4⟩ := C.ex
  exact pe_call0 h1 hr hg h3 h4 h2 .nil pass0 hdb
end

section
variable {K : PySem.W.Frag} {ta tb tc te : TE} {ga gb gc ge : Y}
/-! ### a < b < c -/
def chY (f g : D → D → Option D) (a b c : Y) : Y := fun ρ s => bO (a ρ s) fun x s1 => bO (b ρ s1) fun y s2 => mO (f x y) fun z => match z with
  | .bool true => bO (c ρ s2) fun w s3 => mO (g y w) fun d => some (d, s3)
  | .bool false => some (.bool false, s2)
  | _ => none
theorem sd_chain {r r' : R2} {f g : D → D → Option D} (hr : Sd2 K r f) (hr' : Sd2 K r' g) (ha : SdY K ta ga) (hb : SdY K tb gb) (hc : SdY K tc gc) : SdY K (tChain r r' ta tb tc) (chY f g ga gb gc) := by
  intro F O H pc σ ρ s d s' st h Q q
  obtain ⟨x, s1, e1, h⟩ := bO_some h
  obtain ⟨y, s2, e2, h⟩ := bO_some h
  obtain ⟨z, e3, h⟩ := mO_some h
  refine ha F O H pc σ ρ s x s1 st e1 _ fun v F1 H1 n1 sr1 d1 => ?_
  refine hb F1 O H1 pc σ ρ s1 y _ (st.ny n1 sr1) e2 _ fun u F2 H2 n2 sr2 d2 => ?_
  have w2 := n2.wk (n1.wk st.wk)
  refine hr F2 O H2 v u x y z w2 (d1.mono n2.ff) d2 e3 _ fun v' F3 H3 a b c e f => ?_
  have n3 := (n1.trans n2).trans (Ny.pure w2 a b c e)
  have sr3 := sr2.same a
  split at h
  · refine ⟨true, f.bl_inv, ?_⟩
    rw [if_pos rfl]
    obtain ⟨w, s3, e4, h⟩ := bO_some h
    obtain ⟨z2, e5, h⟩ := mO_some h
    cases h
    refine hc F3 O H3 pc σ ρ s2 w _ (st.ny n3 sr3) e4 _ fun v4 F4 H4 n4 sr4 d4 => ?_
    refine hr' F4 O H4 u v4 y w d (n4.wk (n3.wk st.wk)) ((d2.mono b).mono n4.ff) d4 e5 Q fun v5 F5 H5 a5 b5 c5 e5 f5 => ?_
    exact q v5 F5 H5 ((n3.trans n4).trans (Ny.pure (n4.wk (n3.wk st.wk)) a5 b5 c5 e5)) (sr4.same a5) f5
  · cases h
    refine ⟨false, f.bl_inv, ?_⟩
    rw [if_neg Bool.false_ne_true]
    exact q _ F3 H3 n3 sr3 (.bl false)
  · cases h

/-! ### t[::-1] -/
theorem adjust_rev (n : Nat) : Builtin.Slice.sliceAdjust none none (-1) (n : Int) = ((n : Int) - 1, -1) := by
  unfold Builtin.Slice.sliceAdjust
  simp
theorem places_rev (n : Nat) : Builtin.Slice.slicePlaces ((n : Int) - 1) (-1) (-1) = n := by
  unfold Builtin.Slice.slicePlaces
  rw [if_neg (by decide)]
  by_cases h : (n : Int) - 1 > -1
  · rw [if_pos h]
    have : ((n : Int) - 1 - -1 - 1) / (- -1) + 1 = (n : Int) := by
      rw [show (- -1 : Int) = 1 by decide, Int.ediv_one]
      omega
    rw [this, Int.toNat_natCast]
  · rw [if_neg h]
    omega
theorem pick_rev (xs : Array Value) : ((List.range xs.size).filterMap fun (m : Nat) => xs[(((xs.size : Int) - 1) + (m : Int) * (-1)).toNat]?).toArray = xs.toList.reverse.toArray := by
  congr 1
  apply List.ext_getElem?
  intro i
  have h0 : ∀ (l : List Nat), (∀ m ∈ l, m < xs.size) → (l.filterMap fun (m : Nat) => xs[(((xs.size : Int) - 1) + (m : Int) * (-1)).toNat]?) = l.map fun m => (xs.toList.reverse[m]?).getD .none := by
    intro l
    induction l with
    | nil => intro _; rfl
    | cons m l ih =>
      intro hm
      have h1 := hm m List.mem_cons_self
      have e1 : (((xs.size : Int) - 1) + (m : Int) * (-1)).toNat = xs.size - 1 - m := by omega
      have e2 : xs[xs.size - 1 - m]? = some (xs[xs.size - 1 - m]'(by omega)) := Array.getElem?_eq_getElem (by omega)
      have e3 : xs.toList.reverse[m]? = some (xs[xs.size - 1 - m]'(by omega)) := by
        rw [List.getElem?_reverse (by simpa using h1)]
        simp
      rw [List.filterMap_cons, e1, e2, List.map_cons, ih fun k hk => hm k (List.mem_cons_of_mem _ hk), e3]
      rfl
  rw [h0 _ fun m hm => List.mem_range.mp hm, List.getElem?_map]
  by_cases hi : i < xs.size
  · rw [List.getElem?_range hi]
    have : i < xs.toList.reverse.length := by simpa using hi
    rw [Option.map_some, List.getElem?_eq_getElem this]
    rfl
  · rw [List.getElem?_eq_none (by rw [List.length_range]; omega), List.getElem?_eq_none (by simp; omega)]
    rfl
theorem getItem_tup_rev {prog : Program} {w : World} {A : Around} {E : Value → Shared → Prop} {s : Shared} {t sl : Addr} {items : Array Value} {vl vu vs : Value} {Q : Value → Shared → Prop} (ht : IsTup s.heap t items) (hs : s.heap.IsSliceOf sl vl vu vs)
    (pl : IsPart vl none) (pu : IsPart vu none) (ps : IsPart vs (some (-1))) (hsz : items.size ≤ sizeLine)
    (h : Q (.ref s.heap.objs.size) { s with heap := s.heap.push { cls := .type "tuple", data := .seq items.toList.reverse.toArray } }) : wpAny (model prog w) A (getItem (.ref t) (.ref sl)) Q E s := by
  obtain ⟨os, hos, hcs, hds⟩ := id hs
  have hT : s.TypeIs (.ref sl) "slice" := ⟨os, hos, hcs⟩
  have hok : sizeOk (.seq items.toList.reverse.toArray) := by
    show items.toList.reverse.toArray.size ≤ sizeLine
    simpa using hsz
  unfold getItem
  try with_reducible refine wpAny_holding ?_
  first | refine wpAny_bind (wpAny_pure ?_) | skip
  refine wpAny_bind (wpAny_sequenceKey ht.typeIs (by decide) ?_)
  refine wpAny_bind (wpAny_callSpecial?_slot (name := Str.ofString "__getitem__") ht.typeIs PyProof.Rows.slot_tuple_getitem
    (wpAny_call_entry PyProof.Rows.slot_tuple_getitem ht.typeIs entry_tuple_getitem ?_ (args_tuple_getitem _ _)))
  show wpAny _ _ (Builtin.Tuple.tupleItemsOf (.ref t) >>= _) _ _ s
  refine wpAny_bind (tupleItemsOf_ ht ?_)
  refine wpAny_bind (wpAny_typeOf hT ?_)
  rw [if_pos (by decide)]
  refine wpAny_bind ?_
  show wpAny _ _ (Builtin.Slice.sliceApplied (.ref sl) (pure (items.size : Int))) _ _ s
  unfold Builtin.Slice.sliceApplied Builtin.Slice.sliceFields
  refine wpAny_bind (wpAny_bind (wpAny_field hos hds (x := vl) rfl (wpAny_bind (wpAny_field hos hds (x := vu) rfl (wpAny_bind (wpAny_field hos hds (x := vs) rfl (wpAny_pure ?_)))))))
  refine wpAny_bind (HT.slicePart_ ps ?_)
  show wpAny _ _ (if ((-1 : Int) == 0) = true then _ else _) _ _ s
  rw [if_neg (by decide)]
  refine wpAny_bind (HT.slicePart_ pl (wpAny_bind (HT.slicePart_ pu (wpAny_bind (wpAny_pure ?_)))))
  show wpAny _ _ (match Builtin.Slice.sliceAdjust none none (-1) (items.size : Int) with | (lo, hi) => pure (lo, (-1 : Int), Builtin.Slice.slicePlaces lo hi (-1))) _ _ s
  rw [adjust_rev]
  show wpAny _ _ (pure (((items.size : Int) - 1), (-1 : Int), Builtin.Slice.slicePlaces ((items.size : Int) - 1) (-1) (-1))) _ _ s
  rw [places_rev]
  refine wpAny_pure ?_
  show wpAny _ _ (if (((items.size : Int) - 1) == 0 && (-1 : Int) == 1 && items.size == items.size) = true then _ else _) _ _ s
  rw [if_neg (by simp), pick_rev]
  first
    | exact wpAny_bind (m := Builtin.Tuple.tupleExact _) (wpAny_newObj_type (wpAny_pure ⟨_, rfl, wpAny_pure h⟩) hok)
    | exact wpAny_bind (m := Builtin.Tuple.tupleExact _) (wpAny_newObj_type (wpAny_bind (wpAny_pure (wpAny_pure ⟨_, rfl, wpAny_pure h⟩))) hok)
    | exact wpAny_bind (wpAny_bind (m := Builtin.Tuple.tupleExact _) (wpAny_newObj_type (wpAny_pure (wpAny_pure ⟨_, rfl, wpAny_pure h⟩)) hok))
    | exact wpAny_bind (wpAny_bind (m := Builtin.Tuple.tupleExact _) (wpAny_newObj_type (wpAny_pure ⟨_, rfl, wpAny_pure h⟩) hok))
def tRevT (K : PySem.W.Frag) (te : TE) : TE := fun σ H Q => te σ H fun x H1 => ∃ a xs, x = .ref a ∧ SqT K H1 a xs ∧ ∀ p its, H1 p = none → Q (.ref p) (upd H1 p (.frz (tup0 its) (.tup xs.reverse)))
theorem pe_revT {X : Cx} {e : Expr} {te : TE} {k : Nat} {p1 p2 p3 pos : Pos} (he : PE X e te) : PE X (.Subscript e (.Slice none none (some (.UnaryOp .USub (.Constant (.int 1) k p1) p2)) p3) pos) (tRevT X.K te) := by
  refine ⟨fun pins s σ H Q I h => ?_⟩
  refine Subscript_ (thn (he.run pins s σ H _ I h) fun v s1 ⟨x, H1, I1, r1, a, xs, ex, hx, q⟩ => ?_)
  subst ex
  cases r1
  have hst : PO X (some (.UnaryOp .USub (.Constant (.int 1) k p1) p2)) (tPart (tUn (rU fun i => .int (-i)) (tC (.int 1)))) := po_some (pe_un un_neg pe_int)
  refine wpAny_Slice (thn (po_none.run pins s1 σ H1 (fun o H2 => o = none ∧ H2 = H1) I1 ⟨rfl, rfl⟩) fun vl s2 ⟨l, H2, I2, pl, el, e2⟩ => ?_)
  subst el e2
  refine thn (po_none.run pins s2 σ H2 (fun o H3 => o = none ∧ H3 = H2) I2 ⟨rfl, rfl⟩) fun vu s3 ⟨u, H3, I3, pu, eu, e3⟩ => ?_
  subst eu e3
  refine thn (hst.run pins s3 σ H3 (fun o H4 => o = some (-1) ∧ H4 = H3) I3 ⟨1, rfl, -1, rfl, rfl, rfl⟩) fun vs s4 ⟨o, H4, I4, ps, eo, e4⟩ => ?_
  subst eo e4
  have I5 : L2.Inv X pins σ H4 { s4 with heap := s4.heap.push { cls := .type "slice", data := .fields #[vl, vu, vs] } } := I4.kept (t' := s4.toks) fun b ob q => Heap.get?_push_of_some _ q
  obtain ⟨its, r, ht, hz⟩ := I5.tuple hx
  have hlen := r.length
  show wpAny (model X.prog X.w) X.A (subscriptTail e (.Slice none none (some (.UnaryOp .USub (.Constant (.int 1) k p1) p2)) p3) (.ref a) (.ref s4.heap.objs.size)) (EP X pins σ Q) X.xe { s4 with heap := s4.heap.push { cls := .type "slice", data := .fields #[vl, vu, vs] } }
  refine tail_any (ops := [.ref a, .ref s4.heap.objs.size]) ht.typeIs (PyProof.Rows.slot_tuple_getitem.lookup) ?_ (by with_unfolding_all rfl)
  refine getItem_tup_rev ht (Heap.IsSliceOf.new _ vl vu vs) pl pu ps (by rw [List.size_toArray]; omega) ?_
  exact ⟨.ref _, _, tup_in (t' := s4.toks) I5 r.reverse (by rw [List.length_reverse]; exact hz), rfl, q _ its.reverse (I5.hok.fresh (Nat.le_refl _))⟩
def tRevA (K : PySem.W.Frag) (te : TE) : TE := fun σ H Q => tRevL K te σ H Q ∨ tRevT K te σ H Q
theorem pe_revA {X : Cx} {e : Expr} {te : TE} {k : Nat} {p1 p2 p3 pos : Pos} (he : PE X e te) : PE X (.Subscript e (.Slice none none (some (.UnaryOp .USub (.Constant (.int 1) k p1) p2)) p3) pos) (tRevA X.K te) := pe_or (pe_revL he) (pe_revT he)
def revAD : D → Option D
  | .list ds => some (.list ds.reverse)
  | .tuple ds => some (.tuple ds.reverse)
  | _ => none
theorem sd_revA (h : SdY K te ge) : SdY K (tRevA K te) (y1 revAD ge) := by
  intro F O H pc σ ρ s d s' st e Q q
  obtain ⟨x, s1, e1, e⟩ := bO_some e
  obtain ⟨z, e2, e⟩ := mO_some e
  cases e
  unfold revAD at e2
  split at e2
  · cases e2
    refine .inl (h F O H pc σ ρ s _ _ st e1 _ fun v F1 H1 n1 sr1 d1 => ?_)
    obtain ⟨p, vs, rfl, h1, h2⟩ := d1.lst_inv
    have w1 := n1.wk st.wk
    exact ⟨p, vs, rfl, w1.l h1, fun l hl => finL (ds := _) w1 (fun v F2 H2 a b c e f => q v F2 H2 (n1.trans (Ny.pure w1 a b c e)) (sr1.same a) f) hl h2.reverse⟩
  · cases e2
    refine .inr (h F O H pc σ ρ s _ _ st e1 _ fun v F1 H1 n1 sr1 d1 => ?_)
    obtain ⟨p, vs, rfl, h1, h2⟩ := d1.tup_inv
    have w1 := n1.wk st.wk
    exact ⟨p, vs, rfl, w1.t h1, fun l its hl => finT (ds := _) w1 (fun v F2 H2 a b c e f => q v F2 H2 (n1.trans (Ny.pure w1 a b c e)) (sr1.same a) f) hl h2.reverse⟩
  · cases e2
theorem sn_revA (h : SdY K te ge) : SdN K (tRevA K te) (yn1 revN ge) := by
  intro F O H pc σ ρ s d s' st e Q q
  exact .inl (sn_rev h F O H pc σ ρ s d s' st e Q q)

/-! ### a, b = e1, e2 where a tuple is made on the way -/
theorem Ny.tup {F H : Hp} {O : Om} {p : Addr} {its : List Value} {vs : List V} (w : Wk F O H) (hp : H p = none) : Ny O F H F (upd H p (.frz (tup0 its) (.tup vs))) :=
  Ny.pure w (same_new hp) (Same.refl _) (w.fh.trans (same_new hp)) fun _ _ h => .inl h
theorem ss_parT {i j : Nat} {gu gv : Yu} (h : SdU K ta gu) (h' : SdU K tb gv) : SdS K (tAsg (tTup0 (tCons ta (tCons tb tNil))) (gTup K 2 (gNames [i, j]))) (parS i j gu gv) := by
  intro F O H pc σ ρ s fl s' st e Dn k
  obtain ⟨x, s1, e1, e⟩ := bO_some e
  obtain ⟨y, s2, e2, e⟩ := bO_some e
  cases e
  refine h F O H pc σ ρ s x _ st e1 _ fun v F1 H1 n1 sr1 d1 => ?_
  have st1 := st.ny n1 sr1
  refine h' F1 O H1 pc σ ρ s1 y _ st1 e2 _ fun u F2 H2 n2 sr2 d2 => ⟨by show 2 ≤ sizeLine; decide, fun p its hp => ?_⟩
  have st2 := st1.ny n2 sr2
  have n3 := Ny.tup (its := its) (vs := [v, u]) st2.wk hp
  have st3 := st2.ny n3 (sr2.same (same_new hp))
  refine ⟨p, [v, u], rfl, .inl (.inr ⟨_, upd_same⟩), rfl, v, [u], rfl, u, [], rfl, rfl, ?_⟩
  obtain ⟨q, st4⟩ := store (i := i) ((n1.trans n2).trans n3).sq st3 ((d1.later n2).later n3)
  obtain ⟨q2, st5⟩ := store (i := j) q st4 (NewOr.second d1 (fun _ z => z) (d2.later n3) n1.dom)
  exact k _ F2 _ _ pc q2 (PcLe.refl _) st5
theorem ss_parT3 {i j l : Nat} {gu gv gw : Yu} (h : SdU K ta gu) (h' : SdU K tb gv) (h'' : SdU K tc gw) : SdS K (tAsg (tTup0 (tCons ta (tCons tb (tCons tc tNil)))) (gTup K 3 (gNames [i, j, l]))) (par3S i j l gu gv gw) := by
  intro F O H pc σ ρ s fl s' st e Dn k
  obtain ⟨x, s1, e1, e⟩ := bO_some e
  obtain ⟨y, s2, e2, e⟩ := bO_some e
  obtain ⟨z, s3, e3, e⟩ := bO_some e
  cases e
  refine h F O H pc σ ρ s x _ st e1 _ fun v F1 H1 n1 sr1 d1 => ?_
  have st1 := st.ny n1 sr1
  refine h' F1 O H1 pc σ ρ s1 y _ st1 e2 _ fun u F2 H2 n2 sr2 d2 => ?_
  have st2 := st1.ny n2 sr2
  refine h'' F2 O H2 pc σ ρ s2 z _ st2 e3 _ fun w F3 H3 n3 sr3 d3 => ⟨by show 3 ≤ sizeLine; decide, fun p its hp => ?_⟩
  have st3 := st2.ny n3 sr3
  have n4 := Ny.tup (its := its) (vs := [v, u, w]) st3.wk hp
  have st4 := st3.ny n4 (sr3.same (same_new hp))
  refine ⟨p, [v, u, w], rfl, .inl (.inr ⟨_, upd_same⟩), rfl, v, [u, w], rfl, u, [w], rfl, w, [], rfl, rfl, ?_⟩
  obtain ⟨q, st5⟩ := store (i := i) (((n1.trans n2).trans n3).trans n4).sq st4 (((d1.later n2).later n3).later n4)
  obtain ⟨q2, st6⟩ := store (i := j) q st5 (NewOr.second d1 (fun _ z => z) ((d2.later n3).later n4) n1.dom)
  have d3' : NewOr K (nO (nO O i v x) j u y) H F3 _ w z := NewOr.second d2 (fun _ z => z) (NewOr.second (H := H2) d1 n2.dom (d3.later n4) (fun _ z => z)) (n1.trans n2).dom
  obtain ⟨q3, st7⟩ := store (i := l) q2 st6 d3'
  exact k _ F3 _ _ pc q3 (PcLe.refl _) st7
end
end DL

set_option Elab.async false
set_option linter.all false
set_option maxRecDepth 100000
set_option maxHeartbeats 4000000
/-! DL9: the law's end, the pick, the things mixed. -/
namespace DL
open PySem PySem.Spec PyProof.Rows L2

def spLaw (K : PySem.W.Frag) : Sp := fun vs H Q _ => ∃ (a : Addr) (ns : List Int), vs = [.ref a] ∧ SqL K H a (ns.map V.int) ∧ ns.length ≤ 63 ∧ ∀ H', Q (.bl true) H'
theorem law_end {K : PySem.W.Frag} {kk i : Nat} {t : TS} {G : Z} {mk : List Int → Src} {H : Hp} {a : Addr} {ns : List Int} {N : List Str} {E : XK} {s2 : Src} {Dn : Ends} (hs : SdS K t G) (hS : SqL K H a (ns.map V.int)) (hl : ns.length ≤ 63) (hi : i < kk)
    (e : G ((List.replicate kk Sl.un).set i .sr) (mk ns) = some (.rt (.bool true), s2)) (q : ∀ H', Dn.rt (.bl true) H') (hN : N.length = kk := by rfl) :
    tSeq (tAsg (tCall (spMk K mk) [] E (tCons (tVar 0) tNil)) (gName i)) t Dn (L2.start N [.ref a]) H := by
  have h0 : (L2.start N [.ref a])[0]? = some (some (.ref a)) := by
    unfold L2.start
    rfl
  have hlen : (L2.start N [V.ref a]).length = kk := by
    unfold L2.start
    rw [List.length_append, List.length_map, List.length_replicate, List.length_cons, List.length_nil]
    omega
  refine ss_mk (F := fun _ => none) (ρ := List.replicate kk .un) hs (fun _ _ z => nomatch z) ⟨by rw [hlen, List.length_replicate], fun j sl hj => ?_⟩ h0 hS hl (by rw [List.length_replicate]; exact hi) e Dn fun F1 O1 H1 pc1 _ _ _ => fun v F' O' H' pc' _ _ _ _ d => ?_
  · rw [List.getElem?_replicate] at hj
    split at hj
    · cases hj
      rename_i hjk
      exact ⟨_, List.getElem?_eq_getElem (by rw [hlen]; exact hjk), trivial⟩
    · cases hj
  · rw [d.bl_inv]
    exact q H'

theorem Cal.imp {P : Program} {w : World} {K : PySem.W.Frag} {mg : Str → Option Value} {base : Heap} {k : Nat} {x : Str} {ps : List Str} {sp sp' : Sp} (C : Cal P w K mg base k x ps sp) (h : ∀ vs H Q E, sp' vs H Q E → sp vs H Q E) : Cal P w K mg base k x ps sp' := by
  obtain ⟨f, fd, h1, h2⟩ := C.ex
  exact ⟨f, fd, h1.imp h, h2⟩
theorem spY_weak {K : PySem.W.Frag} {n : Nat} {m m' : List D → Src → Option (D × Src)} (h : ∀ ds s r, m' ds s = some r → m ds s = some r) : ∀ vs H Q E, spY K n m' vs H Q E → spY K n m vs H Q E := by
  rintro vs H Q E ⟨p, c, rest, F, ds, s, d, s', e, h1, h2, h3, h4, h5, h6, h7, h8, h9⟩
  exact ⟨p, c, rest, F, ds, s, d, s', e, h1, h2, h3, h4, h5, h6, h7, h _ _ _ h8, h9⟩
theorem spP_weak {K : PySem.W.Frag} {n : Nat} {m m' : List D → Option D} (h : ∀ ds r, m' ds = some r → m ds = some r) : ∀ vs H Q E, spP K n m' vs H Q E → spP K n m vs H Q E := by
  rintro vs H Q E ⟨F, ds, d, h1, h2, h3, h4, h5⟩
  exact ⟨F, ds, d, h1, h2, h3, h _ _ h4, h5⟩

/-! ### the pick -/
def whPick : Yb := andT (bT (y2 gtD (varY 1) (cY (.int 1)))) (andT (bT (y2 ltD (rdS 0 Src.left) (cY (.int 2)))) (bT (y2 gtD (rdS 0 fun s => s.cells.length) (cY (.int 0)))))
def endPick : Z := (seqS (asgS 2 (fzU (rdS 0 Src.left)))
      (seqS (ifS (orT (bT (y2 ltD (varY 1) (cY (.int 2)))) (bT (y2 gtD (varY 2) (cY (.int 1)))))
        (seqS (wrS 0 (fun s z => { s with left := z }) (y2 fdivD (varY 2) (yC maxC (aCons (cY (.int 1)) (aCons (varY 1) aNil)))))
      (retS (y2 modD (yC intC (aCons (varY 2) aNil)) (yC maxC (aCons (cY (.int 1)) (aCons (varY 1) aNil))))))
        nxS)
      (seqS (wrS 0 (fun s z => { s with turn := z }) (y2 addD (rdS 0 Src.turn) (cY (.int 1))))
      (seqS (asgS 3 (fzU (y2 modD (yC intC (aCons (y2 addD (rdS 0 Src.mixed) (y2 mulD (rdS 0 Src.turn) (cY (.int 104729)))) aNil)) (cY (.int 998244353)))))
      (seqS (asgS 3 (fzU (y2 modD (yC intC (aCons (y2 addD (y2 mulD (varY 3) (varY 3)) (y2 mulD (rdS 0 Src.turn) (cY (.int 17)))) aNil)) (cY (.int 2147483647)))))
      (seqS (wrS 0 (fun s z => { s with mixed := z }) (varY 3))
      (retS (y2 modD (yC intC (aCons (y2 fdivD (varY 3) (cY (.int 16))) aNil)) (varY 1)))))))))
def pickG : Z := seqS (whS whPick (popC 0)) endPick

theorem whPick_eq (many : Int) (y z : Sl) (s : Src) : whPick [.sr, .fz (.int many), y, z] s = some (decide (many > 1 ∧ s.left < 2 ∧ s.cells ≠ []), s) := by
  have h1 : (decide ((s.cells.length : Int) > 0)) = decide (s.cells ≠ []) := by
    cases s.cells with
    | nil => rfl
    | cons c cs => simp
  have e : whPick [.sr, .fz (.int many), y, z] s = (if decide (many > 1) = true then (if decide (s.left < 2) = true then some (decide ((s.cells.length : Int) > 0), s) else some (false, s)) else some (false, s)) := rfl
  rw [e, h1]
  by_cases a : many > 1 <;> by_cases b : s.left < 2 <;> simp [a, b]
theorem whPick_go (many : Int) (y z : Sl) : ∀ (n : Nat) (s : Src), s.cells.length < n → whGo whPick (popC 0) n [.sr, .fz (.int many), y, z] s = some (.nx [.sr, .fz (.int many), y, z], refill many s.cells.length s) := by
  intro n
  induction n with
  | zero => intro s h; omega
  | succ n ih =>
    intro s h
    unfold whGo
    rw [whPick_eq]
    by_cases c : many > 1 ∧ s.left < 2 ∧ s.cells ≠ []
    · rw [refill_go c, decide_eq_true c]
      dsimp only [bO]
      rw [if_pos rfl]
      have : popC 0 [.sr, .fz (.int many), y, z] s = some (.nx [.sr, .fz (.int many), y, z], { s with cells := s.cells.dropLast, left := s.cells.getLastD 0 }) := by
        show (if s.cells = [] then none else _) = _
        rw [if_neg c.2.2]
      rw [this]
      dsimp only [bO]
      rw [ih _ (by show s.cells.dropLast.length < n; rw [List.length_dropLast]; have := List.length_pos_iff.mpr c.2.2; omega)]
    · rw [refill_stop c, decide_eq_false c]
      rfl

def endV (many : Int) (s : Src) : Int × Src :=
  if many < 2 ∨ s.left > 1 then (s.left.fmod (mx1 many), { s with left := s.left.fdiv (mx1 many) })
  else
    let turn := s.turn + 1
    let mixed := (s.mixed + turn * 104729) % 998244353
    let mixed2 := (mixed * mixed + turn * 17) % 2147483647
    ((mixed2.fdiv 16).fmod many, { s with turn := turn, mixed := mixed2 })
theorem max_mx1 (many : Int) : max 1 many = mx1 many := by unfold mx1; split <;> omega
theorem mx1_lt {many : Int} (h : many < 1000000) : mx1 many ≠ 0 ∧ (mx1 many).natAbs < 1073741824 := by unfold mx1; split <;> omega
theorem fmod_pos_eq (a : Int) {b : Int} (h : 0 ≤ b) : a.fmod b = a % b := Int.fmod_eq_emod_of_nonneg a h
theorem mul_ii (a : Int) {b : Int} (h1 : -(2 ^ 64) < b) (h2 : b < 2 ^ 64) : mulD (.int a) (.int b) = some (.int (a * b)) := by
  unfold mulD
  simp only [decide_eq_true h1, decide_eq_true h2, Bool.and_true, Bool.or_true, if_true]
theorem mod_ii (a : Int) {b : Int} (h : b ≠ 0) : modD (.int a) (.int b) = some (.int (a.fmod b)) := by
  unfold modD i2D
  simp [h]
theorem fdiv_ii (a : Int) {b : Int} (h : b ≠ 0) (h2 : b.natAbs < 1073741824) : fdivD (.int a) (.int b) = some (.int (a.fdiv b)) := by
  unfold fdivD i2D
  simp [h, h2]
theorem endPick_eq (many : Int) (y z : Sl) (s : Src) (h : many < 1000000) : outY (endPick [.sr, .fz (.int many), y, z] s) = some (.int (endV many s).1, (endV many s).2) := by
  obtain ⟨hm0, hm1⟩ := mx1_lt h
  by_cases c : many < 2 ∨ s.left > 1
  · have e1 : (if decide (many < 2) = true then some (true, s) else some (decide (s.left > 1), s)) = some (true, s) := by
      rcases c with c | c
      · rw [if_pos (decide_eq_true c)]
      · rw [decide_eq_true c]; split <;> rfl
    have : endPick [.sr, .fz (.int many), y, z] s = some (.rt (.int (s.left.fmod (mx1 many))), { s with left := s.left.fdiv (mx1 many) }) := by
      unfold endPick seqS asgS fzU
      dsimp only [rdS, bO, List.getElem?_cons_zero, List.set_cons_succ, List.set_cons_zero]
      have e2 : orT (bT (y2 ltD (varY 1) (cY (.int 2)))) (bT (y2 gtD (varY 2) (cY (.int 1)))) [.sr, .fz (.int many), .fz (.int s.left), z] s = (if decide (many < 2) = true then some (true, s) else some (decide (s.left > 1), s)) := rfl
      unfold ifS
      rw [e2, e1]
      dsimp only [bO]
      rw [if_pos rfl]
      have e3 : y2 fdivD (varY 2) (yC maxC (aCons (cY (.int 1)) (aCons (varY 1) aNil))) [.sr, .fz (.int many), .fz (.int s.left), z] s = mO (fdivD (.int s.left) (.int (max 1 many))) fun d => some (d, s) := rfl
      have e4 : ∀ s2, y2 modD (yC intC (aCons (varY 2) aNil)) (yC maxC (aCons (cY (.int 1)) (aCons (varY 1) aNil))) [.sr, .fz (.int many), .fz (.int s.left), z] s2 = mO (modD (.int s.left) (.int (max 1 many))) fun d => some (d, s2) := fun _ => rfl
      have e5 : fdivD (.int s.left) (.int (max 1 many)) = some (.int (s.left.fdiv (mx1 many))) := by
        rw [max_mx1]
        unfold fdivD i2D
        simp [hm0, hm1]
      have e6 : modD (.int s.left) (.int (max 1 many)) = some (.int (s.left.fmod (mx1 many))) := by
        rw [max_mx1]
        unfold modD i2D
        simp [hm0]
      unfold wrS
      rw [e3, e5]
      dsimp only [mO, bO, List.getElem?_cons_zero, retS]
      rw [e4, e6]
      rfl
    rw [this]
    unfold endV
    rw [if_pos c]
    rfl
  · have c1 : ¬ many < 2 := fun z => c (.inl z)
    have c2 : ¬ s.left > 1 := fun z => c (.inr z)
    have e1 : (if decide (many < 2) = true then some (true, s) else some (decide (s.left > 1), s)) = some (false, s) := by
      rw [if_neg (by rw [decide_eq_true_eq]; exact c1), decide_eq_false c2]
    let turn := s.turn + 1
    let mixed := (s.mixed + turn * 104729) % 998244353
    let mixed2 := (mixed * mixed + turn * 17) % 2147483647
    have b1 : 0 ≤ mixed ∧ mixed < 998244353 := ⟨Int.emod_nonneg _ (by decide), Int.emod_lt_of_pos _ (by decide)⟩
    have : endPick [.sr, .fz (.int many), y, z] s = some (.rt (.int ((mixed2.fdiv 16).fmod many)), { s with turn := turn, mixed := mixed2 }) := by
      unfold endPick seqS asgS fzU
      dsimp only [rdS, bO, List.getElem?_cons_zero, List.set_cons_succ, List.set_cons_zero]
      have e2 : orT (bT (y2 ltD (varY 1) (cY (.int 2)))) (bT (y2 gtD (varY 2) (cY (.int 1)))) [.sr, .fz (.int many), .fz (.int s.left), z] s = (if decide (many < 2) = true then some (true, s) else some (decide (s.left > 1), s)) := rfl
      unfold ifS
      rw [e2, e1]
      dsimp only [bO, nxS]
      rw [if_neg Bool.false_ne_true]
      let s1 : Src := { s with turn := turn }
      have e3 : wrS 0 (fun s z => { s with turn := z }) (y2 addD (rdS 0 Src.turn) (cY (.int 1))) [.sr, .fz (.int many), .fz (.int s.left), z] s = some (.nx [.sr, .fz (.int many), .fz (.int s.left), z], s1) := rfl
      dsimp only
      rw [e3]
      dsimp only
      simp only [seqS, asgS, fzU, owU, y2, yC, y1, yn1, yn2, ynC, ynR, yR, rg1, rg2, slY, ynSl, oNo, oYes, aCons, aNil, rdS, cY, varY, tupY, lstY, frY, bO, mO, retS, retN, nxS, bT, andT, orT, notT, ifY, andY, orY, notY, vwY, vwT, oixY, parS, par3S, wrS, yesT, bN, iY, iR1, iR2, iZ, augS, appS, frzS, ifS, fuel, List.getElem?_cons_zero, List.getElem?_cons_succ, List.set_cons_zero, List.set_cons_succ, addD, intC, mul_ii _ (show -(2 ^ 64) < (104729 : Int) by decide) (by decide), mod_ii _ (show (998244353 : Int) ≠ 0 by decide), fmod_pos_eq _ (show 0 ≤ (998244353 : Int) by decide)]
      have h2 : mulD (.int mixed) (.int mixed) = some (.int (mixed * mixed)) := mul_ii _ (by omega) (by omega)
      have h2' : mulD (.int ((s.mixed + turn * 104729) % 998244353)) (.int ((s.mixed + turn * 104729) % 998244353)) = some (.int (mixed * mixed)) := h2
      simp only [seqS, asgS, fzU, owU, y2, yC, y1, yn1, yn2, ynC, ynR, yR, rg1, rg2, slY, ynSl, oNo, oYes, aCons, aNil, rdS, cY, varY, tupY, lstY, frY, bO, mO, retS, retN, nxS, bT, andT, orT, notT, ifY, andY, orY, notY, vwY, vwT, oixY, parS, par3S, wrS, yesT, bN, iY, iR1, iR2, iZ, augS, appS, frzS, ifS, fuel, List.getElem?_cons_zero, List.getElem?_cons_succ, List.set_cons_zero, List.set_cons_succ, addD, intC, s1, h2', mul_ii _ (show -(2 ^ 64) < (17 : Int) by decide) (by decide), mod_ii _ (show (2147483647 : Int) ≠ 0 by decide), fmod_pos_eq _ (show 0 ≤ (2147483647 : Int) by decide), fdiv_ii _ (show (16 : Int) ≠ 0 by decide) (by decide), mod_ii _ (show many ≠ 0 by omega)]
      rfl
    rw [this]
    unfold endV
    rw [if_neg c]
    rfl
theorem pick_eq (many : Int) (s : Src) : pickP many s = endV many (refill many s.cells.length s) := rfl
theorem pick_run (ds : List D) (s : Src) (r : D × Src) (h : pickM ds s = some r) : runY pickG 2 ds s = some r := by
  unfold pickM at h
  split at h
  · rename_i many
    split at h
    · rename_i hm
      cases h
      unfold runY pickG seqS whS
      show outY (match whGo whPick (popC 0) (fuel + s.cells.length) [.sr, .fz (.int many), .un, .un] s with | some (.nx ρ1, s1) => endPick ρ1 s1 | r => r) = _
      rw [whPick_go many .un .un _ s (by unfold fuel; omega)]
      dsimp only
      rw [endPick_eq many .un .un _ hm, pick_eq]
    · cases h
  · cases h
/-! ### the things mixed -/
section
variable {K : PySem.W.Frag}
theorem scratch_st {F H : Hp} {O : Om} {pc : Pc} {σ : L2.St} {ρ : Rho} {s : Src} {Dl : Addr} {o : HO} (st : Stt K F O H pc σ ρ s) (hF : F Dl = none) (hO : O Dl = none) : Stt K F O (upd H Dl o) pc σ ρ s := by
  have ne : ∀ a, O a ≠ none → a ≠ Dl := fun a h z => h (by rw [z, hO])
  refine ⟨⟨fun a x e => ?_, st.wk.fo, fun a e => ?_⟩, ⟨st.env.len, fun j sl hj => ?_⟩, src_push st.src hO⟩
  · rw [upd_ne (fun z => by rw [z, hF] at e; cases e)]; exact st.wk.fh a x e
  · rw [upd_ne (ne a e)]; exact st.wk.oh a e
  · obtain ⟨v, g1, g2⟩ := st.env.at_ j sl hj
    refine ⟨v, g1, ?_⟩
    cases sl with
    | un => trivial
    | fz d => exact g2
    | ow ds =>
      obtain ⟨a, vs, z1, z2, z3, z4⟩ := g2
      exact ⟨a, vs, z1, z2, by rw [upd_ne (ne a (by rw [z2]; exact fun z => nomatch z))]; exact z3, z4⟩
    | o2 dss =>
      obtain ⟨a, qs, z1, z2, z3, z4, z5, z6⟩ := g2
      exact ⟨a, qs, z1, z2, by rw [upd_ne (ne a (by rw [z2]; exact fun z => nomatch z))]; exact z3, z4, z5, z6.imp fun b ds ⟨y1, vs, y2, y3⟩ => ⟨y1, vs, by rw [upd_ne (ne b (by rw [y1]; exact fun z => nomatch z))]; exact y2, y3⟩⟩
    | sr => exact g2
theorem scratch_sq {F H F' H' : Hp} {O O' : Om} {Dl : Addr} {o : HO} (q : Sq F O H F' O' H') (hH : H Dl = none) : Sq F O H F' O' (upd H' Dl o) := by
  refine ⟨q.ff, fun a x e1 e2 => ⟨?_, (q.unown a x e1 e2).2⟩, fun a e => ?_, q.src, q.new⟩
  · rw [upd_ne (fun z => by rw [z, hH] at e1; cases e1)]; exact (q.unown a x e1 e2).1
  · by_cases ha : a = Dl
    · rw [ha, upd_same]; exact fun z => nomatch z
    · rw [upd_ne ha]; exact q.dom a e
def mixG : Z := fun ρ s => match ρ with
  | [.sr, _, .ow ds, _] => if ds.length < 1000 then some (.rt (.list (mixedGo ds.length ds s).1), (mixedGo ds.length ds s).2) else none
  | _ => none
theorem mixedGo_len : ∀ (n : Nat) (ds : List D) (s : Src), (mixedGo n ds s).1.length = n
  | 0, _, _ => rfl
  | n + 1, ds, s => by
    unfold mixedGo
    show _ + 1 = _
    rw [mixedGo_len n]
theorem mixedGo_step {rem : List D} {s : Src} (h : 0 < rem.length) : mixedGo rem.length rem s = ((rem[(pickP rem.length s).1.toNat]?).getD .none :: (mixedGo (rem.length - 1) (rem.eraseIdx (pickP rem.length s).1.toNat) (pickP rem.length s).2).1, (mixedGo (rem.length - 1) (rem.eraseIdx (pickP rem.length s).1.toNat) (pickP rem.length s).2).2) := by
  cases rem with
  | nil => cases h
  | cons x xs => rfl
theorem seqIndex_nn {i : Int} {n : Nat} (h0 : 0 ≤ i) (h : i < n) : seqIndex? i n = some i.toNat := by
  unfold seqIndex?
  simp only [if_neg (show ¬ i < 0 by omega)]
  rw [if_pos (by simp [h0, h])]
theorem pickM_eq {many : Int} (s : Src) (h : many < 1000000) : pickM [.int many] s = some (.int (pickP many s).1, (pickP many s).2) := by
  unfold pickM
  simp only [h, if_true]
theorem drawY_ev {i n : Nat} {m : List D → Src → Option (D × Src)} {g : Yl} {ρ : Rho} {s s1 : Src} {xs : List D} (h : ρ[i]? = some .sr) (hg : g ρ s = some (xs, s1)) (hn : xs.length = n) : drawY i n m g ρ s = m xs s1 := by
  unfold drawY
  rw [h]
  simp only [hg, bO, hn, if_true]
theorem ss_mixed {E : XK} : SdS K (tRet (tLc (iRng1 (tCons (tCB (rLen K) (tCons (tVar 2) tNil)) tNil)) (gName 3) tYes (tBM K "list" rPopAt (tVar 2) (tCons (tCall (spY K 1 pickM) [] E (tCons (tVar 0) (tCons (tCB (rLen K) (tCons (tVar 2) tNil)) tNil))) tNil)) [3])) mixG := by
  intro F O H pc σ ρ s fl s' st e Dn k
  unfold mixG at e
  split at e
  · rename_i s1 ds s2
    split at e
    · rename_i hlen
      cases e
      -- the length
      have sl : SdY K (tCB (rLen K) (tCons (tVar 2) tNil)) (vwY (yC lenC (aCons (varY 2) aNil))) := sd_vw (sd_C sC_len (sa_cons (sd_var 2) sa_nil))
      have el : ∀ (z : Sl) (rem : List D) (s3 : Src), vwY (yC lenC (aCons (varY 2) aNil)) [.sr, s1, .ow rem, z] s3 = some (.int rem.length, s3) := fun _ _ _ => rfl
      refine sl F O H pc σ _ s _ _ st (el _ _ _) _ fun v F1 H1 n1 sr1 d1 => ?_
      have st1 := st.ny n1 sr1
      refine ⟨(ds.length : Int), by rw [d1.int_inv], by omega, by omega, ?_⟩
      rw [Int.toNat_natCast]
      intro Dl hD
      have hOD : O Dl = none := by
        cases z : O Dl with
        | none => rfl
        | some u => exact absurd hD (st1.wk.oh Dl (by rw [z]; exact fun z => nomatch z))
      have hFD : F1 Dl = none := st1.wk.nF hD
      have hHD : H Dl = none := by
        cases z : H Dl with
        | none => rfl
        | some u => exact absurd hD (n1.dom Dl (by rw [z]; exact fun z => nomatch z))
      have wst : Stt K F1 O H1 pc (wipe σ [3]) [.sr, s1, .ow ds, .un] s := ⟨st1.wk, wipe_env st1.env [3], st1.src⟩
      let Pv : Nat → Hp → Prop := fun i H2 => ∃ F2 acc vacc rem s3, Sq F1 O H1 F2 O H2 ∧ F2 Dl = none ∧ H2 Dl = some (.lst vacc) ∧ DqAll K F2 vacc acc ∧ Stt K F2 O H2 pc (wipe σ [3]) [.sr, s1, .ow rem, .un] s3 ∧ rem.length + i = ds.length ∧ acc.length = i ∧
        acc ++ (mixedGo rem.length rem s3).1 = (mixedGo ds.length ds s).1 ∧ (mixedGo rem.length rem s3).2 = (mixedGo ds.length ds s).2
      refine lc_range (vs := [3]) Pv ?_ ?_ ?_
      · exact ⟨F1, [], [], ds, s, scratch_sq (Sq.refl _ _ _) hD, hFD, upd_same, .nil, scratch_st wst hFD hOD, rfl, rfl, rfl, rfl⟩
      · rintro i H2 hi ⟨F2, acc, vacc, rem, s3, q2, f2, h2, da, st2, hr, ha, e1, e2⟩
        refine ⟨?_, ?_⟩
        · show ((σ.set 3 none).set 3 _).set 3 none = σ.set 3 none
          rw [List.set_set, List.set_set]
        unfold tYes
        dsimp only
        rw [if_pos rfl]
        have st3 : Stt K F2 O H2 pc _ [.sr, s1, .ow rem, .fz (.int (0 + i))] s3 := st2.set (i := 3) (v := .int (0 + i)) (.int _)
        obtain ⟨q, vs, g1, g2, g3, g4⟩ := st2.env.own_at (i := 2) rfl
        have g1' : ((wipe σ [3]).set 3 (some (.int (0 + i))))[2]? = some (some (.ref q)) := by
          rw [List.getElem?_set_ne (by decide)]; exact g1
        refine ⟨.ref q, g1', .inl ⟨rfl, vs, SqL.of g3⟩, ?_⟩
        -- the pick
        have sp : SdY K (tCall (spY K 1 pickM) [] E (tCons (tVar 0) (tCons (tCB (rLen K) (tCons (tVar 2) tNil)) tNil))) (drawY 0 1 pickM (aCons (vwY (yC lenC (aCons (varY 2) aNil))) aNil)) := sd_draw (sa_cons sl sa_nil)
        have hrem : 0 < rem.length := by omega
        have ep : drawY 0 1 pickM (aCons (vwY (yC lenC (aCons (varY 2) aNil))) aNil) [.sr, s1, .ow rem, .fz (.int (0 + i))] s3 = some (.int (pickP rem.length s3).1, (pickP rem.length s3).2) := by
          have e9 : aCons (vwY (yC lenC (aCons (varY 2) aNil))) aNil [.sr, s1, .ow rem, .fz (.int (0 + i))] s3 = some ([.int rem.length], s3) := rfl
          exact (drawY_ev rfl e9 rfl).trans (pickM_eq _ (by omega))
        refine sp F2 O H2 pc _ _ s3 _ _ st3 ep _ fun v3 F3 H3 n3 sr3 d3 => ?_
        have st4 := st2.ny n3 sr3
        have pr := pick_range rem.length s3
        rw [show mx1 (rem.length : Int) = rem.length by unfold mx1; split <;> omega] at pr
        have hlt : (pickP rem.length s3).1.toNat < rem.length := by omega
        have hq3 : H3 q = some (.lst vs) := by
          rw [n3.own q (by rw [g2]; exact fun z => nomatch z) (by rw [g2]; exact fun z => nomatch z)]
          exact g3
        obtain ⟨w, w1, w2⟩ := g4.get (List.getElem?_eq_getElem hlt)
        have hvl := g4.len
        refine ⟨q, vs, _, (pickP rem.length s3).1.toNat, w, rfl, by rw [d3.int_inv], hq3, by omega, by omega, ?_, w1, ?_⟩
        · rw [hvl, seqIndex_nn pr.1 (by omega)]
        · obtain ⟨q5, st5⟩ := own_upd st4 g1 g2 ((g4.mono n3.ff).eraseIdx (pickP rem.length s3).1.toNat)
          have hDq : Dl ≠ q := fun z => by rw [z, g2] at hOD; cases hOD
          have f3 : F3 Dl = none := by
            cases z : F3 Dl with
            | none => rfl
            | some o =>
              rcases n3.new Dl o z with h | h
              · rw [f2] at h; cases h
              · rw [h2] at h; cases h
          refine ⟨vacc, ?_, ?_, F3, acc ++ [rem[(pickP rem.length s3).1.toNat]], vacc ++ [w], rem.eraseIdx (pickP rem.length s3).1.toNat, (pickP rem.length s3).2, scratch_sq ((q2.trans n3.sq).trans q5) hD, f3, upd_same, (da.mono n3.ff).append (.cons (w2.mono n3.ff) .nil), scratch_st st5 f3 hOD, ?_, ?_, ?_, ?_⟩
          · rw [upd_ne hDq]; exact n3.unown _ _ h2 hOD
          · rw [da.len]; exact small1000 (by omega)
          · rw [List.length_eraseIdx, if_pos hlt]; omega
          · rw [List.length_append, List.length_singleton, ha]
          · rw [← e1, List.append_assoc]
            refine congrArg (acc ++ ·) ?_
            rw [mixedGo_step hrem, List.getElem?_eq_getElem hlt, List.length_eraseIdx, if_pos hlt]
            rfl
          · rw [← e2, mixedGo_step hrem, List.length_eraseIdx, if_pos hlt]
      · rintro H2 ⟨F2, acc, vacc, rem, s3, q2, f2, h2, da, st2, hr, ha, e1, e2⟩
        have hr0 : rem = [] := List.length_eq_zero_iff.mp (by omega)
        subst hr0
        rw [show (mixedGo ([] : List D).length [] s3) = ([], s3) from rfl] at e1 e2
        rw [List.append_nil] at e1
        subst e1 e2
        have hF2 : Same F2 (upd F2 Dl (.lst vacc)) := same_new f2
        have hFH : Same (upd F2 Dl (.lst vacc)) H2 := fun a o z => by
          by_cases ha : a = Dl
          · rw [ha, upd_same] at z; rw [ha, ← z]; exact h2
          · rw [upd_ne ha] at z; exact st2.wk.fh a o z
        have wk2 : Wk (upd F2 Dl (.lst vacc)) O H2 := ⟨hFH, fun a z => by rw [upd_ne (fun y => z (by rw [y, hOD]))]; exact st2.wk.fo a z, st2.wk.oh⟩
        refine k (.ref Dl) (upd F2 Dl (.lst vacc)) O H2 pc (n1.sq.trans ⟨q2.ff.trans hF2, q2.unown, q2.dom, q2.src, fun a o z => ?_⟩) (PcLe.refl _) wk2 st2.src (.lst upd_same (da.mono hF2))
        by_cases ha : a = Dl
        · rw [ha]; exact .inr (.inr hD)
        · rw [upd_ne ha] at z; exact q2.new a o z
    · cases e
  · cases e
theorem mix_run (ds : List D) (s : Src) (r : D × Src) (h : mixedM ds s = some r) : runY (seqS (asgS 2 (owU (ynC listC (aCons (varY 1) aNil)))) mixG) 2 ds s = some r := by
  unfold mixedM at h
  split at h
  · rename_i xs
    split at h
    · rename_i hl
      cases h
      show outY (if xs.length < 1000 then _ else _) = _
      rw [if_pos hl]
      rfl
    · cases h
  · rename_i xs
    split at h
    · rename_i hl
      cases h
      show outY (if xs.length < 1000 then _ else _) = _
      rw [if_pos hl]
      rfl
    · cases h
  · cases h
end
end DL

set_option Elab.async false
set_option linter.all false
set_option maxRecDepth 100000
set_option maxHeartbeats 4000000
namespace W81
open PySem PySem.Spec PyProof.Rows L2 DL
def topS (i : Nat) : Stmt := PySem.Challenge.pw_leastlattices_k81_whole_greatest_product.main.body.getD i (.Pass ⟨0, 0, 0, 0⟩)
abbrev s_exchanged : Stmt := topS 1
abbrev s_swapped : Stmt := topS 2
abbrev s_taken_once : Stmt := topS 4
abbrev s_taken_less : Stmt := topS 5
abbrev s_first_word : Stmt := topS 6
abbrev s_once : Stmt := topS 7
abbrev s_less : Stmt := topS 8
abbrev s__law_source : Stmt := topS 10
abbrev s__law_pick : Stmt := topS 11
abbrev s__law_of : Stmt := topS 12
abbrev s__law_mixed : Stmt := topS 13
abbrev s__law_row : Stmt := topS 14
abbrev s__law_all_rows : Stmt := topS 15
abbrev s__law_length : Stmt := topS 16
abbrev s__law_is_below : Stmt := topS 17
abbrev s__law_exchanged : Stmt := topS 18
abbrev s__law_steps : Stmt := topS 19
abbrev s__law_raised : Stmt := topS 20
abbrev s__law_behind : Stmt := topS 21
abbrev s__law_rows_below : Stmt := topS 22
abbrev s__law_other_way : Stmt := topS 23
abbrev s_law : Stmt := topS 24
abbrev NM_exchanged : List Str := ["row", "i", "j", "found"]
theorem sc_exchanged : FnScope NM_exchanged ["row", "i", "j"] (defScope s_exchanged) := ⟨rfl, rfl, rfl, by decide +kernel, rfl, by decide +kernel, by decide +kernel⟩
abbrev NM_first_word : List Str := ["row", "here", "found", "k", "i", "j"]
theorem sc_first_word : FnScope NM_first_word ["row"] (defScope s_first_word) := ⟨rfl, rfl, rfl, by decide +kernel, rfl, by decide +kernel, by decide +kernel⟩
abbrev NM__law_source : List Str := ["script", "mixed", "cell"]
theorem sc__law_source : FnScope NM__law_source ["script"] (defScope s__law_source) := ⟨rfl, rfl, rfl, by decide +kernel, rfl, by decide +kernel, by decide +kernel⟩
abbrev NM__law_pick : List Str := ["source", "many", "left", "mixed"]
theorem sc__law_pick : FnScope NM__law_pick ["source", "many"] (defScope s__law_pick) := ⟨rfl, rfl, rfl, by decide +kernel, rfl, by decide +kernel, by decide +kernel⟩
abbrev NM__law_all_rows : List Str := ["n", "found", "k", "late", "row", "thing"]
theorem sc__law_all_rows : FnScope NM__law_all_rows ["n"] (defScope s__law_all_rows) := ⟨rfl, rfl, rfl, by decide +kernel, rfl, by decide +kernel, by decide +kernel⟩
abbrev NM__law_length : List Str := ["row", "k", "thing"]
theorem sc__law_length : FnScope NM__law_length ["row"] (defScope s__law_length) := ⟨rfl, rfl, rfl, by decide +kernel, rfl, by decide +kernel, by decide +kernel⟩
abbrev NM__law_is_below : List Str := ["u", "w", "i", "one", "other"]
theorem sc__law_is_below : FnScope NM__law_is_below ["u", "w"] (defScope s__law_is_below) := ⟨rfl, rfl, rfl, by decide +kernel, rfl, by decide +kernel, by decide +kernel⟩
abbrev NM__law_exchanged : List Str := ["row", "i", "j", "found"]
theorem sc__law_exchanged : FnScope NM__law_exchanged ["row", "i", "j"] (defScope s__law_exchanged) := ⟨rfl, rfl, rfl, by decide +kernel, rfl, by decide +kernel, by decide +kernel⟩
abbrev NM__law_behind : List Str := ["one", "other", "k"]
theorem sc__law_behind : FnScope NM__law_behind ["one", "other"] (defScope s__law_behind) := ⟨rfl, rfl, rfl, by decide +kernel, rfl, by decide +kernel, by decide +kernel⟩
abbrev NM__law_other_way : List Str := ["row", "k"]
theorem sc__law_other_way : FnScope NM__law_other_way ["row"] (defScope s__law_other_way) := ⟨rfl, rfl, rfl, by decide +kernel, rfl, by decide +kernel, by decide +kernel⟩
abbrev NM_swapped : List Str := ["row", "k"]
theorem sc_swapped : FnScope NM_swapped ["row", "k"] (defScope s_swapped) := ⟨rfl, rfl, rfl, by decide +kernel, rfl, by decide +kernel, by decide +kernel⟩
abbrev NM__law_of : List Str := ["source", "some"]
theorem sc__law_of : FnScope NM__law_of ["source", "some"] (defScope s__law_of) := ⟨rfl, rfl, rfl, by decide +kernel, rfl, by decide +kernel, by decide +kernel⟩
abbrev NM__law_mixed : List Str := ["source", "things", "rest", "lap"]
theorem sc__law_mixed : FnScope NM__law_mixed ["source", "things"] (defScope s__law_mixed) := ⟨rfl, rfl, rfl, by decide +kernel, rfl, by decide +kernel, by decide +kernel⟩
abbrev NM__law_steps : List Str := ["u", "found", "i", "j", "thing"]
theorem sc__law_steps : FnScope NM__law_steps ["u"] (defScope s__law_steps) := ⟨rfl, rfl, rfl, by decide +kernel, rfl, by decide +kernel, by decide +kernel⟩
abbrev NM__law_rows_below : List Str := ["w", "row"]
theorem sc__law_rows_below : FnScope NM__law_rows_below ["w"] (defScope s__law_rows_below) := ⟨rfl, rfl, rfl, by decide +kernel, rfl, by decide +kernel, by decide +kernel⟩
abbrev NM_taken_once : List Str := ["row", "word", "k"]
theorem sc_taken_once : FnScope NM_taken_once ["row", "word"] (defScope s_taken_once) := ⟨rfl, rfl, rfl, by decide +kernel, rfl, by decide +kernel, by decide +kernel⟩
abbrev NM_taken_less : List Str := ["row", "word", "k"]
theorem sc_taken_less : FnScope NM_taken_less ["row", "word"] (defScope s_taken_less) := ⟨rfl, rfl, rfl, by decide +kernel, rfl, by decide +kernel, by decide +kernel⟩
abbrev NM__law_row : List Str := ["source", "n"]
theorem sc__law_row : FnScope NM__law_row ["source", "n"] (defScope s__law_row) := ⟨rfl, rfl, rfl, by decide +kernel, rfl, by decide +kernel, by decide +kernel⟩
abbrev NM__law_raised : List Str := ["source", "u", "most", "lap", "some"]
theorem sc__law_raised : FnScope NM__law_raised ["source", "u", "most"] (defScope s__law_raised) := ⟨rfl, rfl, rfl, by decide +kernel, rfl, by decide +kernel, by decide +kernel⟩
abbrev NM_once : List Str := ["one", "other"]
theorem sc_once : FnScope NM_once ["one", "other"] (defScope s_once) := ⟨rfl, rfl, rfl, by decide +kernel, rfl, by decide +kernel, by decide +kernel⟩
abbrev NM_less : List Str := ["one", "other"]
theorem sc_less : FnScope NM_less ["one", "other"] (defScope s_less) := ⟨rfl, rfl, rfl, by decide +kernel, rfl, by decide +kernel, by decide +kernel⟩
abbrev NM_law : List Str := ["script", "source", "lap", "n", "u", "w", "x", "tops", "told", "lows", "low", "is_plain", "lap_two", "v", "one", "row", "other"]
theorem sc_law : FnScope NM_law ["script"] (defScope s_law) := ⟨rfl, rfl, rfl, by decide +kernel, rfl, by decide +kernel, by decide +kernel⟩
/-! the mirrors -/
def G_exchanged : Z :=
      (seqS (asgS 3 (owU (ynC listC (aCons (varY 0) aNil))))
      (seqS (asgGS (tupY (aCons (oixY 3 (varY 2)) (aCons (oixY 3 (varY 1)) aNil))) (tupG 2 (consGs (subG 3 (varY 1)) (consGs (subG 3 (varY 2)) nilGs))))
      (frzS 3 (retS (yC tupleC (aCons (varY 3) aNil))))))
def m_exchanged : List D → Option D := runD G_exchanged 1
def G_first_word : Z :=
      (seqS (parS 1 2 (owU (ynC listC (aCons (varY 0) aNil))) (owU (lstY aNil)))
      (seqS (whS (bT (vwY (y2 neD (varY 1) (frY (ynC sortC (aCons (varY 1) aNil))))))
        (seqS (asgS 3 (fzU (y2 ixD (frY (lcY (iR1 (vwY (y2 subD (yC lenC (aCons (varY 1) aNil)) (cY (.int 1))))) (bN 3) (bT (vwY (y2 gtD (y2 idxD (varY 1) (varY 3)) (y2 idxD (varY 1) (y2 addD (varY 3) (cY (.int 1))))))) (varY 3) [3])) (cY (.int 0)))))
      (seqS (parS 4 5 (fzU (vwY (y2 idxD (varY 1) (varY 3)))) (fzU (vwY (y2 idxD (varY 1) (y2 addD (varY 3) (cY (.int 1)))))))
      (seqS (asgGS (tupY (aCons (y2 addD (varY 3) (cY (.int 1))) (aCons (varY 3) aNil))) (tupG 2 (consGs (subG 1 (varY 4)) (consGs (subG 1 (varY 5)) nilGs))))
      (appS 2 (varY 3))))))
      (frzS 2 (retS (yC tupleC (aCons (varY 2) aNil))))))
def m_first_word : List D → Option D := runD G_first_word 5
def G__law_all_rows : Z :=
      (seqS (asgS 1 (fzU (frY (lstY (aCons (tupY aNil) aNil)))))
      (seqS (forS (iR1 (varY 0)) (bN 2)
        (seqS (asgS 3 (fzU (frY (lstY aNil))))
      (seqS (forS (iY (varY 1)) (bN 4)
        (asgS 3 (fzU (y2 addD (varY 3) (frY (lcY (iR1 (varY 0)) (bN 5) (bT (y2 (inD true) (varY 5) (varY 4))) (y2 addD (varY 4) (tupY (aCons (varY 5) aNil))) [5]))))))
      (asgS 1 (fzU (varY 3))))))
      (retS (varY 1))))
def m_law_all_rows : List D → Option D := runD G__law_all_rows 5
def G__law_length : Z :=
      (retS (yC sumC (aCons (frY (lcY (iR1 (yC lenC (aCons (varY 0) aNil))) (bN 1) yesT (yC lenC (aCons (frY (lcY (iY (slY slD (varY 0) (oYes (y2 addD (varY 1) (cY (.int 1)))) oNo)) (bN 2) (bT (y2 ltD (varY 2) (y2 ixD (varY 0) (varY 1)))) (varY 2) [2])) aNil)) [1])) aNil)))
def m_law_length : List D → Option D := runD G__law_length 2
def G__law_is_below : Z :=
      (seqS (forS (iR2 (cY (.int 1)) (yC lenC (aCons (varY 0) aNil))) (bN 2)
        (forS (iZ (frY (ynC sortC (aCons (slY slD (varY 0) oNo (oYes (varY 2))) aNil))) (frY (ynC sortC (aCons (slY slD (varY 1) oNo (oYes (varY 2))) aNil)))) (bP 3 4)
        (ifS (bT (y2 gtD (varY 3) (varY 4)))
        (retS (cY (.bool false)))
        nxS)))
      (retS (cY (.bool true))))
def m_law_is_below : List D → Option D := runD G__law_is_below 3
def G__law_exchanged : Z :=
      (seqS (asgS 3 (owU (ynC listC (aCons (varY 0) aNil))))
      (seqS (asgGS (tupY (aCons (y2 ixD (varY 0) (varY 2)) (aCons (y2 ixD (varY 0) (varY 1)) aNil))) (tupG 2 (consGs (subG 3 (varY 1)) (consGs (subG 3 (varY 2)) nilGs))))
      (frzS 3 (retS (yC tupleC (aCons (varY 3) aNil))))))
def m_law_exchanged : List D → Option D := runD G__law_exchanged 1
def G__law_behind : Z :=
      (retS (yC tupleC (aCons (frY (lcY (iY (varY 1)) (bN 2) yesT (y2 ixD (varY 0) (varY 2)) [2])) aNil)))
def m_law_behind : List D → Option D := runD G__law_behind 1
def G__law_other_way : Z :=
      (retS (yC tupleC (aCons (frY (lcY (iR1 (yC lenC (aCons (varY 0) aNil))) (bN 1) yesT (y2 idxD (varY 0) (varY 1)) [1])) aNil)))
def m_law_other_way : List D → Option D := runD G__law_other_way 1
def G_swapped : Z :=
      (retS (callY 3 m_exchanged (aCons (varY 0) (aCons (varY 1) (aCons (y2 addD (varY 1) (cY (.int 1))) aNil)))))
def m_swapped : List D → Option D := runD G_swapped 0
def G__law_of : Z :=
      (retS (y2 ixD (varY 1) (drawY 0 1 pickM (aCons (yC lenC (aCons (varY 1) aNil)) aNil))))
def m_law_of : List D → Src → Option (D × Src) := runY G__law_of 0
def G__law_steps : Z :=
      (seqS (asgS 1 (owU (lstY aNil)))
      (seqS (forS (iR1 (yC lenC (aCons (varY 0) aNil))) (bN 2)
        (forS (iR2 (y2 addD (varY 2) (cY (.int 1))) (yC lenC (aCons (varY 0) aNil))) (bN 3)
        (ifS (andT (bT (y2 ltD (y2 ixD (varY 0) (varY 2)) (y2 ixD (varY 0) (varY 3)))) (bT (y2 eqD (frY (lcY (iY (slY slD (varY 0) (oYes (y2 addD (varY 2) (cY (.int 1)))) (oYes (varY 3)))) (bN 4) (bT (chY ltD ltD (y2 ixD (varY 0) (varY 2)) (varY 4) (y2 ixD (varY 0) (varY 3)))) (varY 4) [4])) (frY (lstY aNil)))))
        (appS 1 (tupY (aCons (tupY (aCons (varY 2) (aCons (varY 3) aNil))) (aCons (callY 3 m_law_exchanged (aCons (varY 0) (aCons (varY 2) (aCons (varY 3) aNil)))) aNil))))
        nxS)))
      (frzS 1 (retS (varY 1)))))
def m_law_steps : List D → Option D := runD G__law_steps 4
def G__law_rows_below : Z :=
      (retS (frY (lcY (iY (callY 1 m_law_all_rows (aCons (yC lenC (aCons (varY 0) aNil)) aNil))) (bN 1) (bT (callY 2 m_law_is_below (aCons (varY 1) (aCons (varY 0) aNil)))) (varY 1) [1])))
def m_law_rows_below : List D → Option D := runD G__law_rows_below 1
def G_taken_once : Z :=
      (seqS (forS (iY (varY 1)) (bN 2)
        (asgS 0 (fzU (ifY (bT (y2 ltD (y2 ixD (varY 0) (varY 2)) (y2 ixD (varY 0) (y2 addD (varY 2) (cY (.int 1)))))) (callY 2 m_swapped (aCons (varY 0) (aCons (varY 2) aNil))) (varY 0)))))
      (retS (varY 0)))
def m_taken_once : List D → Option D := runD G_taken_once 1
def G_taken_less : Z :=
      (seqS (forS (iY (y1 revAD (varY 1))) (bN 2)
        (asgS 0 (fzU (ifY (bT (y2 gtD (y2 ixD (varY 0) (varY 2)) (y2 ixD (varY 0) (y2 addD (varY 2) (cY (.int 1)))))) (callY 2 m_swapped (aCons (varY 0) (aCons (varY 2) aNil))) (varY 0)))))
      (retS (varY 0)))
def m_taken_less : List D → Option D := runD G_taken_less 1
def G__law_row : Z :=
      (retS (yC tupleC (aCons (drawY 0 1 mixedM (aCons (frY (ynR (rg1 (varY 1)))) aNil)) aNil)))
def m_law_row : List D → Src → Option (D × Src) := runY G__law_row 0
def G__law_raised : Z :=
      (seqS (forS (iR1 (drawY 0 1 pickM (aCons (y2 addD (varY 2) (cY (.int 1))) aNil))) (bN 3)
        (seqS (asgS 4 (fzU (callY 1 m_law_steps (aCons (varY 1) aNil))))
      (asgS 1 (fzU (ifY (bT (y2 neD (varY 4) (frY (lstY aNil)))) (y2 ixD (drawY 0 1 m_law_of (aCons (varY 4) aNil)) (cY (.int 1))) (varY 1))))))
      (retS (varY 1)))
def m_law_raised : List D → Src → Option (D × Src) := runY G__law_raised 2
def G_once : Z :=
      (retS (callY 2 m_taken_once (aCons (varY 0) (aCons (callY 1 m_first_word (aCons (varY 1) aNil)) aNil))))
def m_once : List D → Option D := runD G_once 0
def G_less : Z :=
      (retS (callY 2 m_taken_less (aCons (varY 0) (aCons (callY 1 m_first_word (aCons (varY 1) aNil)) aNil))))
def m_less : List D → Option D := runD G_less 0
def G_law : Z :=
      (seqS (forS (iR1 (cY (.int 3))) (bN 2)
        (seqS (asgS 3 (fzU (y2 addD (cY (.int 1)) (drawY 1 1 pickM (aCons (cY (.int 4)) aNil)))))
      (seqS (par3S 4 5 6 (fzU (drawY 1 1 m_law_row (aCons (varY 3) aNil))) (fzU (drawY 1 1 m_law_row (aCons (varY 3) aNil))) (fzU (drawY 1 1 m_law_row (aCons (varY 3) aNil))))
      (seqS (asgS 7 (fzU (frY (lcY (iY (callY 1 m_law_rows_below (aCons (varY 4) aNil))) (bN 14) yesT (callY 2 m_law_behind (aCons (varY 14) (aCons (varY 5) aNil))) [14]))))
      (seqS (asgS 8 (fzU (callY 2 m_once (aCons (varY 4) (aCons (varY 5) aNil)))))
      (seqS (ifS (bT (y2 neD (frY (lcY (iY (varY 7)) (bN 15) (notT (bT (callY 2 m_law_is_below (aCons (varY 15) (aCons (varY 8) aNil))))) (varY 15) [15])) (frY (lstY aNil))))
        (retS (cY (.bool false)))
        nxS)
      (seqS (asgS 7 (fzU (frY (lcY (iY (callY 1 m_law_rows_below (aCons (varY 5) aNil))) (bN 16) yesT (callY 2 m_law_behind (aCons (varY 4) (aCons (varY 16) aNil))) [16]))))
      (seqS (ifS (orT (bT (y2 neD (frY (lcY (iY (varY 7)) (bN 15) (notT (bT (callY 2 m_law_is_below (aCons (varY 15) (aCons (varY 8) aNil))))) (varY 15) [15])) (frY (lstY aNil)))) (bT (y2 (inD true) (varY 8) (varY 7))))
        (retS (cY (.bool false)))
        nxS)
      (seqS (asgS 9 (fzU (frY (lcY (iY (callY 1 m_law_rows_below (aCons (varY 5) aNil))) (bN 16) yesT (callY 2 m_law_behind (aCons (varY 4) (aCons (callY 1 m_law_other_way (aCons (varY 16) aNil)) aNil))) [16]))))
      (seqS (asgS 10 (fzU (callY 2 m_less (aCons (varY 4) (aCons (varY 5) aNil)))))
      (seqS (ifS (orT (bT (y2 neD (frY (lcY (iY (varY 9)) (bN 15) (notT (bT (callY 2 m_law_is_below (aCons (varY 10) (aCons (varY 15) aNil))))) (varY 15) [15])) (frY (lstY aNil)))) (bT (y2 (inD true) (varY 10) (varY 9))))
        (retS (cY (.bool false)))
        nxS)
      (seqS (ifS (orT (bT (y2 neD (callY 2 m_once (aCons (callY 2 m_once (aCons (varY 4) (aCons (varY 5) aNil))) (aCons (varY 6) aNil))) (callY 2 m_once (aCons (varY 4) (aCons (callY 2 m_once (aCons (varY 5) (aCons (varY 6) aNil))) aNil))))) (bT (y2 neD (callY 2 m_less (aCons (callY 2 m_less (aCons (varY 4) (aCons (varY 5) aNil))) (aCons (varY 6) aNil))) (callY 2 m_less (aCons (varY 4) (aCons (callY 2 m_once (aCons (varY 6) (aCons (varY 5) aNil))) aNil))))))
        (retS (cY (.bool false)))
        nxS)
      (seqS (asgS 11 (fzU (y2 eqD (callY 1 m_law_length (aCons (callY 2 m_law_behind (aCons (varY 4) (aCons (varY 5) aNil))) aNil)) (y2 addD (callY 1 m_law_length (aCons (varY 4) aNil)) (callY 1 m_law_length (aCons (varY 5) aNil))))))
      (seqS (ifS (orT (bT (y2 neD (y2 eqD (varY 8) (callY 2 m_law_behind (aCons (varY 4) (aCons (varY 5) aNil)))) (varY 11))) (bT (y2 ltD (callY 1 m_law_length (aCons (varY 8) aNil)) (yC maxC (aCons (callY 1 m_law_length (aCons (varY 4) aNil)) (aCons (callY 1 m_law_length (aCons (varY 5) aNil)) aNil))))))
        (retS (cY (.bool false)))
        nxS)
      (forS (iR1 (cY (.int 4))) (bN 12)
        (seqS (asgS 3 (fzU (y2 addD (cY (.int 1)) (drawY 1 1 pickM (aCons (cY (.int 12)) aNil)))))
      (seqS (par3S 4 5 13 (fzU (drawY 1 1 m_law_row (aCons (varY 3) aNil))) (fzU (drawY 1 1 m_law_row (aCons (varY 3) aNil))) (fzU (drawY 1 1 m_law_row (aCons (varY 3) aNil))))
      (seqS (asgS 13 (fzU (ifY (bT (y2 eqD (drawY 1 1 pickM (aCons (cY (.int 2)) aNil)) (cY (.int 0)))) (varY 13) (callY 2 m_less (aCons (callY 2 m_once (aCons (varY 4) (aCons (varY 5) aNil))) (aCons (drawY 1 2 m_law_raised (aCons (yR (rg1 (varY 3))) (aCons (cY (.int 2)) aNil))) aNil))))))
      (ifS (bT (y2 neD (callY 2 m_law_is_below (aCons (varY 13) (aCons (callY 2 m_once (aCons (varY 4) (aCons (varY 5) aNil))) aNil))) (callY 2 m_law_is_below (aCons (callY 2 m_less (aCons (varY 13) (aCons (varY 5) aNil))) (aCons (varY 4) aNil)))))
        (retS (cY (.bool false)))
        nxS)))))))))))))))))))
      (retS (cY (.bool true))))
section
variable {P : Program} {w : World} {K : PySem.W.Frag} {mg : Str → Option Value} {base : Heap}
theorem ok_exchanged {f : Addr} {fd : FuncData} (Fn : Fun K "exchanged" "exchanged" s_exchanged f fd) (b_list : mg "list" = none) (b_tuple : mg "tuple" = none) : FnOk P w K mg base CX0 1 f fd ["row", "i", "j"] (spP K 3 m_exchanged) :=
  def_P (k := 0) Fn sc_exchanged rfl rfl fun cdv A outer s H E hr => ⟨_,
      (pss_cons (ps_set (i := 3) sc_exchanged.nd rfl (by first | exact Or.inl rfl | exact Or.inr rfl) (pe_callTy call_list_of (by rfl) b_list (by decide +kernel) (pa_cons (pv 0) pa_nil)))
      (pss_cons (ps_asg (pe_tup0 (pa_cons (pe_ix ix_list (pv 3) (pv 2) (fun _ _ => rfl)) (pa_cons (pe_ix ix_list (pv 3) (pv 1) (fun _ _ => rfl)) pa_nil))) (pg_tup rfl (pgs_cons (pg_sub (pv 3) (pv 1) set_list) (pgs_cons (pg_sub (pv 3) (pv 2) set_list) pgs_nil))))
      (pss_one (ps_ret (pe_callTy call_tup0 (by rfl) b_tuple (by decide +kernel) (pa_cons (pv 3) pa_nil)))))),
      (ss_seq (ss_asg (i := 3) (su_ow (sn_C sCN_list (sa_cons (sd_var 0) sa_nil))))
      (ss_seq (ss_asgG (sd_tup (sa_cons (sd_oix (sd_var 2)) (sa_cons (sd_oix (sd_var 1)) sa_nil))) (sg_tup (n := 2) (sgs_cons (sg_sub (i := 3) (sd_var 1)) (sgs_cons (sg_sub (i := 3) (sd_var 2)) sgs_nil))))
      (ss_frz 3 (ss_ret (sd_C sC_tuple (sa_cons (sd_var 3) sa_nil))))))⟩
theorem ok_first_word {f : Addr} {fd : FuncData} (Fn : Fun K "first_word" "first_word" s_first_word f fd) (b_list : mg "list" = none) (b_sorted : mg "sorted" = none) (b_len : mg "len" = none) (b_range : mg "range" = none) (b_tuple : mg "tuple" = none) : FnOk P w K mg base CX0 1 f fd ["row"] (spP K 1 m_first_word) :=
  def_P (k := 0) Fn sc_first_word rfl rfl fun cdv A outer s H E hr => ⟨_,
      (pss_cons (ps_asg (pe_tup0 (pa_cons (pe_callTy call_list_of (by rfl) b_list (by decide +kernel) (pa_cons (pv 0) pa_nil)) (pa_cons (pe_lst pa_nil) pa_nil))) (pg_tup rfl (pgs_cons (pg_name (i := 1) sc_first_word.nd rfl (by first | exact Or.inl rfl | exact Or.inr rfl)) (pgs_cons (pg_name (i := 2) sc_first_word.nd rfl (by first | exact Or.inl rfl | exact Or.inr rfl)) pgs_nil))))
      (pss_cons (ps_while PassesOwn.never (pt_cmpR (op_neD hr.units) (pv 1) (pe_callB cr_sortedA (by rfl) b_sorted (by decide +kernel) (pa_cons (pv 1) pa_nil)) (by first | exact nomark _ | rfl))
        (pss_cons (ps_set (i := 3) sc_first_word.nd rfl (by first | exact Or.inl rfl | exact Or.inr rfl) (pe_ix ix_seq (pe_lc (own := [("k", 3)]) (g := gName 3) rfl sc_first_word.nd (pi_range1 (by rfl) b_range (pa_cons (pe_op op_sub (pe_callB call_len_seq (by rfl) b_len (by decide +kernel) (pa_cons (pv 1) pa_nil)) pe_int) pa_nil)) (blkOk_by (N := NM_first_word) (sc := defScope s_first_word) (by decide +kernel)) (fun _ _ _ _ _ => (pg_name (i := 3) sc_first_word.nd rfl (by first | exact Or.inl rfl | exact Or.inr rfl))) (fun _ _ _ _ _ => (pts_one (pt_cmpR op_gt (pe_idx (room65 hr) (pv 1) (pv 3)) (pe_idx (room65 hr) (pv 1) (pe_op op_addA (pv 3) pe_int)) (by first | exact nomark _ | rfl)))) (fun _ _ _ _ _ => (pv 3))) pe_int (fun _ _ => rfl)))
      (pss_cons (ps_par (i := 4) (j := 5) rfl sc_first_word.nd rfl rfl (by decide) rfl rfl (pa_cons (pe_idx (room65 hr) (pv 1) (pv 3)) (pa_cons (pe_idx (room65 hr) (pv 1) (pe_op op_addA (pv 3) pe_int)) pa_nil)) (by rfl))
      (pss_cons (ps_asg (pe_tup0 (pa_cons (pe_op op_addA (pv 3) pe_int) (pa_cons (pv 3) pa_nil))) (pg_tup rfl (pgs_cons (pg_sub (pv 1) (pv 4) set_list) (pgs_cons (pg_sub (pv 1) (pv 5) set_list) pgs_nil))))
      (pss_one (ps_expr (pe_bm PySem.F.plainAttrs_list PySem.F.slot_list_append PySem.F.type_list_append mt_append (pv 2) (pa_cons (pv 3) pa_nil))))))))
      (pss_one (ps_ret (pe_callTy call_tup0 (by rfl) b_tuple (by decide +kernel) (pa_cons (pv 2) pa_nil)))))),
      (ss_seq (ss_parT (i := 1) (j := 2) (su_ow (sn_C sCN_list (sa_cons (sd_var 0) sa_nil))) (su_ow (sn_lst sa_nil)))
      (ss_seq (ss_while (st_Test (sd_vw (sd_2 s2_ne (sd_var 1) (sd_fr (sn_C sCN_sorted (sa_cons (sd_var 1) sa_nil))))))
        (ss_seq (ss_asg (i := 3) (su_fz (sd_2 s2_ix (sd_fr (sn_lc (si_r1 (sd_vw (sd_2 s2_sub (sd_C sC_len (sa_cons (sd_var 1) sa_nil)) (sd_int 1))) (tg_name 3)) (by decide) (st_Test (sd_vw (sd_2 s2_cmp (sd_idx (sd_var 1) (sd_var 3)) (sd_idx (sd_var 1) (sd_2 s2_add (sd_var 3) (sd_int 1)))))) (sd_var 3))) (sd_int 0))))
      (ss_seq (ss_par (i := 4) (j := 5) (su_fz (sd_vw (sd_idx (sd_var 1) (sd_var 3)))) (su_fz (sd_vw (sd_idx (sd_var 1) (sd_2 s2_add (sd_var 3) (sd_int 1))))))
      (ss_seq (ss_asgG (sd_tup (sa_cons (sd_2 s2_add (sd_var 3) (sd_int 1)) (sa_cons (sd_var 3) sa_nil))) (sg_tup (n := 2) (sgs_cons (sg_sub (i := 1) (sd_var 4)) (sgs_cons (sg_sub (i := 1) (sd_var 5)) sgs_nil))))
      (ss_app (i := 2) (sd_var 3))))))
      (ss_frz 2 (ss_ret (sd_C sC_tuple (sa_cons (sd_var 2) sa_nil))))))⟩
theorem ok__law_all_rows {f : Addr} {fd : FuncData} (Fn : Fun K "_law_all_rows" "_law_all_rows" s__law_all_rows f fd) (b_range : mg "range" = none) : FnOk P w K mg base CX0 1 f fd ["n"] (spP K 1 m_law_all_rows) :=
  def_P (k := 0) Fn sc__law_all_rows rfl rfl fun cdv A outer s H E hr => ⟨_,
      (pss_cons (ps_set (i := 1) sc__law_all_rows.nd rfl (by first | exact Or.inl rfl | exact Or.inr rfl) (pe_lst (pa_cons (pe_tup0 pa_nil) pa_nil)))
      (pss_cons (ps_for PassesOwn.never rfl (pi_range1 (by rfl) b_range (pa_cons (pv 0) pa_nil)) (pg_name (i := 2) sc__law_all_rows.nd rfl (by first | exact Or.inl rfl | exact Or.inr rfl))
        (pss_cons (ps_set (i := 3) sc__law_all_rows.nd rfl (by first | exact Or.inl rfl | exact Or.inr rfl) (pe_lst pa_nil))
      (pss_cons (ps_for PassesOwn.never rfl (pi_seq (pv 1)) (pg_name (i := 4) sc__law_all_rows.nd rfl (by first | exact Or.inl rfl | exact Or.inr rfl))
        (pss_one (ps_set (i := 3) sc__law_all_rows.nd rfl (by first | exact Or.inl rfl | exact Or.inr rfl) (pe_op op_addA (pv 3) (pe_lc (own := [("thing", 5)]) (g := gName 5) rfl sc__law_all_rows.nd (pi_range1 (by rfl) b_range (pa_cons (pv 0) pa_nil)) (blkOk_by (N := NM__law_all_rows) (sc := defScope s__law_all_rows) (by decide +kernel)) (fun _ _ _ _ _ => (pg_name (i := 5) sc__law_all_rows.nd rfl (by first | exact Or.inl rfl | exact Or.inr rfl))) (fun _ _ _ _ _ => (pts_one (pt_cmpR (op_notInA (room65 hr)) (pv 5) (pv 4) (by first | exact nomark _ | rfl)))) (fun _ _ _ _ _ => (pe_op op_addA (pv 4) (pe_tup0 (pa_cons (pv 5) pa_nil)))))))))
      (pss_one (ps_set (i := 1) sc__law_all_rows.nd rfl (by first | exact Or.inl rfl | exact Or.inr rfl) (pv 3))))))
      (pss_one (ps_ret (pv 1))))),
      (ss_seq (ss_asg (i := 1) (su_fz (sd_fr (sn_lst (sa_cons (sd_tup sa_nil) sa_nil)))))
      (ss_seq (ss_for (si_r1 (sd_var 0) (tg_name 2))
        (ss_seq (ss_asg (i := 3) (su_fz (sd_fr (sn_lst sa_nil))))
      (ss_seq (ss_for (si_seq (sd_var 1) (tg_name 4))
        (ss_asg (i := 3) (su_fz (sd_2 s2_add (sd_var 3) (sd_fr (sn_lc (si_r1 (sd_var 0) (tg_name 5)) (by decide) (st_Test (sd_2 s2_in (sd_var 5) (sd_var 4))) (sd_2 s2_add (sd_var 4) (sd_tup (sa_cons (sd_var 5) sa_nil)))))))))
      (ss_asg (i := 1) (su_fz (sd_var 3))))))
      (ss_ret (sd_var 1))))⟩
theorem ok__law_length {f : Addr} {fd : FuncData} (Fn : Fun K "_law_length" "_law_length" s__law_length f fd) (b_len : mg "len" = none) (b_range : mg "range" = none) (b_sum : mg "sum" = none) : FnOk P w K mg base CX0 1 f fd ["row"] (spP K 1 m_law_length) :=
  def_P (k := 0) Fn sc__law_length rfl rfl fun cdv A outer s H E hr => ⟨_,
      (pss_one (ps_ret (pe_callB (cr_sum rfl) (by rfl) b_sum (by decide +kernel) (pa_cons (pe_lc (own := [("k", 1)]) (g := gName 1) (tt := tYes) rfl sc__law_length.nd (pi_range1 (by rfl) b_range (pa_cons (pe_callB call_len_seq (by rfl) b_len (by decide +kernel) (pa_cons (pv 0) pa_nil)) pa_nil)) (blkOk_by (N := NM__law_length) (sc := defScope s__law_length) (by decide +kernel)) (fun _ _ _ _ _ => (pg_name (i := 1) sc__law_length.nd rfl (by first | exact Or.inl rfl | exact Or.inr rfl))) (fun _ _ _ _ _ => pts_nil) (fun _ _ _ _ _ => (pe_callB call_len_seq (by rfl) b_len (by decide +kernel) (pa_cons (pe_lc (own := [("thing", 2)]) (g := gName 2) rfl sc__law_length.nd (pi_seq (pe_slice sl_A0 (pv 0) (po_some (pe_op op_addA (pv 1) pe_int)) po_none)) (blkOk_by (by kernel_rfl)) (fun _ _ _ _ _ => (pg_name (i := 2) sc__law_length.nd rfl (by first | exact Or.inl rfl | exact Or.inr rfl))) (fun _ _ _ _ _ => (pts_one (pt_cmpR op_lt (pv 2) (pe_ix ix_seq (pv 0) (pv 1) (fun _ _ => rfl)) (by first | exact nomark _ | rfl)))) (fun _ _ _ _ _ => (pv 2))) pa_nil)))) pa_nil)))),
      (ss_ret (sd_C sC_sum (sa_cons (sd_fr (sn_lc (si_r1 (sd_C sC_len (sa_cons (sd_var 0) sa_nil)) (tg_name 1)) (by decide) st_yes (sd_C sC_len (sa_cons (sd_fr (sn_lc (si_seq (sd_sl ssl (sd_var 0) (so_yes (sd_2 s2_add (sd_var 1) (sd_int 1))) so_no) (tg_name 2)) (by decide) (st_Test (sd_2 s2_cmp (sd_var 2) (sd_2 s2_ix (sd_var 0) (sd_var 1)))) (sd_var 2))) sa_nil)))) sa_nil)))⟩
theorem ok__law_is_below {f : Addr} {fd : FuncData} (Fn : Fun K "_law_is_below" "_law_is_below" s__law_is_below f fd) (b_len : mg "len" = none) (b_range : mg "range" = none) (b_sorted : mg "sorted" = none) (b_zip : mg "zip" = none) : FnOk P w K mg base CX0 1 f fd ["u", "w"] (spP K 2 m_law_is_below) :=
  def_P (k := 0) Fn sc__law_is_below rfl rfl fun cdv A outer s H E hr => ⟨_,
      (pss_cons (ps_for PassesOwn.never rfl (pi_range2 (by rfl) b_range (pa_cons pe_int (pa_cons (pe_callB call_len_seq (by rfl) b_len (by decide +kernel) (pa_cons (pv 0) pa_nil)) pa_nil))) (pg_name (i := 2) sc__law_is_below.nd rfl (by first | exact Or.inl rfl | exact Or.inr rfl))
        (pss_one (ps_for PassesOwn.never rfl (pi_zip (by rfl) b_zip (pa_cons (pe_callB cr_sortedA (by rfl) b_sorted (by decide +kernel) (pa_cons (pe_slice sl_A0 (pv 0) po_none (po_some (pv 2))) pa_nil)) (pa_cons (pe_callB cr_sortedA (by rfl) b_sorted (by decide +kernel) (pa_cons (pe_slice sl_A0 (pv 1) po_none (po_some (pv 2))) pa_nil)) pa_nil))) (pg_tup rfl (pgs_cons (pg_name (i := 3) sc__law_is_below.nd rfl (by first | exact Or.inl rfl | exact Or.inr rfl)) (pgs_cons (pg_name (i := 4) sc__law_is_below.nd rfl (by first | exact Or.inl rfl | exact Or.inr rfl)) pgs_nil)))
        (pss_one (ps_if (pt_cmpR op_gt (pv 3) (pv 4) (by first | exact nomark _ | rfl))
        (pss_one (ps_ret pe_bl))
        pss_nil)))))
      (pss_one (ps_ret pe_bl))),
      (ss_seq (ss_for (si_r2 (sd_int 1) (sd_C sC_len (sa_cons (sd_var 0) sa_nil)) (tg_name 2))
        (ss_for (si_zip (i := 3) (j := 4) (sd_fr (sn_C sCN_sorted (sa_cons (sd_sl ssl (sd_var 0) so_no (so_yes (sd_var 2))) sa_nil))) (sd_fr (sn_C sCN_sorted (sa_cons (sd_sl ssl (sd_var 1) so_no (so_yes (sd_var 2))) sa_nil))))
        (ss_if (st_Test (sd_2 s2_cmp (sd_var 3) (sd_var 4)))
        (ss_ret (sd_bl false))
        ss_next)))
      (ss_ret (sd_bl true)))⟩
theorem ok__law_exchanged {f : Addr} {fd : FuncData} (Fn : Fun K "_law_exchanged" "_law_exchanged" s__law_exchanged f fd) (b_list : mg "list" = none) (b_tuple : mg "tuple" = none) : FnOk P w K mg base CX0 1 f fd ["row", "i", "j"] (spP K 3 m_law_exchanged) :=
  def_P (k := 0) Fn sc__law_exchanged rfl rfl fun cdv A outer s H E hr => ⟨_,
      (pss_cons (ps_set (i := 3) sc__law_exchanged.nd rfl (by first | exact Or.inl rfl | exact Or.inr rfl) (pe_callTy call_list_of (by rfl) b_list (by decide +kernel) (pa_cons (pv 0) pa_nil)))
      (pss_cons (ps_asg (pe_tup0 (pa_cons (pe_ix ix_seq (pv 0) (pv 2) (fun _ _ => rfl)) (pa_cons (pe_ix ix_seq (pv 0) (pv 1) (fun _ _ => rfl)) pa_nil))) (pg_tup rfl (pgs_cons (pg_sub (pv 3) (pv 1) set_list) (pgs_cons (pg_sub (pv 3) (pv 2) set_list) pgs_nil))))
      (pss_one (ps_ret (pe_callTy call_tup0 (by rfl) b_tuple (by decide +kernel) (pa_cons (pv 3) pa_nil)))))),
      (ss_seq (ss_asg (i := 3) (su_ow (sn_C sCN_list (sa_cons (sd_var 0) sa_nil))))
      (ss_seq (ss_asgG (sd_tup (sa_cons (sd_2 s2_ix (sd_var 0) (sd_var 2)) (sa_cons (sd_2 s2_ix (sd_var 0) (sd_var 1)) sa_nil))) (sg_tup (n := 2) (sgs_cons (sg_sub (i := 3) (sd_var 1)) (sgs_cons (sg_sub (i := 3) (sd_var 2)) sgs_nil))))
      (ss_frz 3 (ss_ret (sd_C sC_tuple (sa_cons (sd_var 3) sa_nil))))))⟩
theorem ok__law_behind {f : Addr} {fd : FuncData} (Fn : Fun K "_law_behind" "_law_behind" s__law_behind f fd) (b_tuple : mg "tuple" = none) : FnOk P w K mg base CX0 1 f fd ["one", "other"] (spP K 2 m_law_behind) :=
  def_P (k := 0) Fn sc__law_behind rfl rfl fun cdv A outer s H E hr => ⟨_,
      (pss_one (ps_ret (pe_callTy call_tup0 (by rfl) b_tuple (by decide +kernel) (pa_cons (pe_lc (own := [("k", 2)]) (g := gName 2) (tt := tYes) rfl sc__law_behind.nd (pi_seq (pv 1)) (blkOk_by (N := NM__law_behind) (sc := defScope s__law_behind) (by decide +kernel)) (fun _ _ _ _ _ => (pg_name (i := 2) sc__law_behind.nd rfl (by first | exact Or.inl rfl | exact Or.inr rfl))) (fun _ _ _ _ _ => pts_nil) (fun _ _ _ _ _ => (pe_ix ix_seq (pv 0) (pv 2) (fun _ _ => rfl)))) pa_nil)))),
      (ss_ret (sd_C sC_tuple (sa_cons (sd_fr (sn_lc (si_seq (sd_var 1) (tg_name 2)) (by decide) st_yes (sd_2 s2_ix (sd_var 0) (sd_var 2)))) sa_nil)))⟩
theorem ok__law_other_way {f : Addr} {fd : FuncData} (Fn : Fun K "_law_other_way" "_law_other_way" s__law_other_way f fd) (b_len : mg "len" = none) (b_range : mg "range" = none) (b_tuple : mg "tuple" = none) : FnOk P w K mg base CX0 1 f fd ["row"] (spP K 1 m_law_other_way) :=
  def_P (k := 0) Fn sc__law_other_way rfl rfl fun cdv A outer s H E hr => ⟨_,
      (pss_one (ps_ret (pe_callTy call_tup0 (by rfl) b_tuple (by decide +kernel) (pa_cons (pe_lc (own := [("k", 1)]) (g := gName 1) (tt := tYes) rfl sc__law_other_way.nd (pi_range1 (by rfl) b_range (pa_cons (pe_callB call_len_seq (by rfl) b_len (by decide +kernel) (pa_cons (pv 0) pa_nil)) pa_nil)) (blkOk_by (N := NM__law_other_way) (sc := defScope s__law_other_way) (by decide +kernel)) (fun _ _ _ _ _ => (pg_name (i := 1) sc__law_other_way.nd rfl (by first | exact Or.inl rfl | exact Or.inr rfl))) (fun _ _ _ _ _ => pts_nil) (fun _ _ _ _ _ => (pe_idx (room65 hr) (pv 0) (pv 1)))) pa_nil)))),
      (ss_ret (sd_C sC_tuple (sa_cons (sd_fr (sn_lc (si_r1 (sd_C sC_len (sa_cons (sd_var 0) sa_nil)) (tg_name 1)) (by decide) st_yes (sd_idx (sd_var 0) (sd_var 1)))) sa_nil)))⟩
theorem ok_swapped {f : Addr} {fd : FuncData} (Fn : Fun K "swapped" "swapped" s_swapped f fd) (C_exchanged : Cal P w K mg base 1 "exchanged" ["row", "i", "j"] (spP K 3 m_exchanged)) : FnOk P w K mg base CX0 2 f fd ["row", "k"] (spP K 2 m_swapped) :=
  def_P (k := 1) Fn sc_swapped rfl rfl fun cdv A outer s H E hr => ⟨_,
      (pss_one (ps_ret (pe_cal (C_exchanged.mono (by decide)) hr (by rfl) (pa_cons (pv 0) (pa_cons (pv 1) (pa_cons (pe_op op_addA (pv 1) pe_int) pa_nil)))))),
      (ss_ret (sd_call (sa_cons (sd_var 0) (sa_cons (sd_var 1) (sa_cons (sd_2 s2_add (sd_var 1) (sd_int 1)) sa_nil)))))⟩
theorem ok__law_of {f : Addr} {fd : FuncData} (Fn : Fun K "_law_of" "_law_of" s__law_of f fd) (C_law_pick : Cal P w K mg base 1 "_law_pick" ["source", "many"] (spY K 1 pickM)) (b_len : mg "len" = none) : FnOk P w K mg base CX0 2 f fd ["source", "some"] (spY K 1 m_law_of) :=
  def_Y (k := 1) Fn sc__law_of rfl rfl fun cdv A outer s H E hr => ⟨_,
      (pss_one (ps_ret (pe_ix ix_seq (pv 1) (pe_cal (C_law_pick.mono (by decide)) hr (by rfl) (pa_cons (pv 0) (pa_cons (pe_callB call_len_seq (by rfl) b_len (by decide +kernel) (pa_cons (pv 1) pa_nil)) pa_nil))) (fun _ _ => rfl)))),
      (ss_ret (sd_2 s2_ix (sd_var 1) (sd_draw (i := 0) (sa_cons (sd_C sC_len (sa_cons (sd_var 1) sa_nil)) sa_nil))))⟩
theorem ok__law_steps {f : Addr} {fd : FuncData} (Fn : Fun K "_law_steps" "_law_steps" s__law_steps f fd) (C_law_exchanged : Cal P w K mg base 1 "_law_exchanged" ["row", "i", "j"] (spP K 3 m_law_exchanged)) (b_len : mg "len" = none) (b_range : mg "range" = none) : FnOk P w K mg base CX0 2 f fd ["u"] (spP K 1 m_law_steps) :=
  def_P (k := 1) Fn sc__law_steps rfl rfl fun cdv A outer s H E hr => ⟨_,
      (pss_cons (ps_set (i := 1) sc__law_steps.nd rfl (by first | exact Or.inl rfl | exact Or.inr rfl) (pe_lst pa_nil))
      (pss_cons (ps_for PassesOwn.never rfl (pi_range1 (by rfl) b_range (pa_cons (pe_callB call_len_seq (by rfl) b_len (by decide +kernel) (pa_cons (pv 0) pa_nil)) pa_nil)) (pg_name (i := 2) sc__law_steps.nd rfl (by first | exact Or.inl rfl | exact Or.inr rfl))
        (pss_one (ps_for PassesOwn.never rfl (pi_range2 (by rfl) b_range (pa_cons (pe_op op_addA (pv 2) pe_int) (pa_cons (pe_callB call_len_seq (by rfl) b_len (by decide +kernel) (pa_cons (pv 0) pa_nil)) pa_nil))) (pg_name (i := 3) sc__law_steps.nd rfl (by first | exact Or.inl rfl | exact Or.inr rfl))
        (pss_one (ps_if (PW.pt (pw_and (pt_cmpR op_lt (pe_ix ix_seq (pv 0) (pv 2) (fun _ _ => rfl)) (pe_ix ix_seq (pv 0) (pv 3) (fun _ _ => rfl)) (by first | exact nomark _ | rfl)) (pw_and1 (pt_cmpR (op_eqD hr.units) (pe_lc (own := [("thing", 4)]) (g := gName 4) rfl sc__law_steps.nd (pi_seq (pe_slice sl_A0 (pv 0) (po_some (pe_op op_addA (pv 2) pe_int)) (po_some (pv 3)))) (blkOk_by (N := NM__law_steps) (sc := defScope s__law_steps) (by decide +kernel)) (fun _ _ _ _ _ => (pg_name (i := 4) sc__law_steps.nd rfl (by first | exact Or.inl rfl | exact Or.inr rfl))) (fun _ _ _ _ _ => (pts_one (pt_chain op_lt op_lt (pe_ix ix_seq (pv 0) (pv 2) (fun _ _ => rfl)) (pv 4) (pe_ix ix_seq (pv 0) (pv 3) (fun _ _ => rfl))))) (fun _ _ _ _ _ => (pv 4))) (pe_lst pa_nil) (by first | exact nomark _ | rfl)))))
        (pss_one (ps_expr (pe_bm PySem.F.plainAttrs_list PySem.F.slot_list_append PySem.F.type_list_append mt_append (pv 1) (pa_cons (pe_tup0 (pa_cons (pe_tup0 (pa_cons (pv 2) (pa_cons (pv 3) pa_nil))) (pa_cons (pe_cal (C_law_exchanged.mono (by decide)) hr (by rfl) (pa_cons (pv 0) (pa_cons (pv 2) (pa_cons (pv 3) pa_nil)))) pa_nil))) pa_nil))))
        pss_nil)))))
      (pss_one (ps_ret (pv 1))))),
      (ss_seq (ss_asg (i := 1) (su_ow (sn_lst sa_nil)))
      (ss_seq (ss_for (si_r1 (sd_C sC_len (sa_cons (sd_var 0) sa_nil)) (tg_name 2))
        (ss_for (si_r2 (sd_2 s2_add (sd_var 2) (sd_int 1)) (sd_C sC_len (sa_cons (sd_var 0) sa_nil)) (tg_name 3))
        (ss_if (st_and (st_Test (sd_2 s2_cmp (sd_2 s2_ix (sd_var 0) (sd_var 2)) (sd_2 s2_ix (sd_var 0) (sd_var 3)))) (st_Test (sd_2 s2_eq (sd_fr (sn_lc (si_seq (sd_sl ssl (sd_var 0) (so_yes (sd_2 s2_add (sd_var 2) (sd_int 1))) (so_yes (sd_var 3))) (tg_name 4)) (by decide) (st_Test (sd_chain s2_cmp s2_cmp (sd_2 s2_ix (sd_var 0) (sd_var 2)) (sd_var 4) (sd_2 s2_ix (sd_var 0) (sd_var 3)))) (sd_var 4))) (sd_fr (sn_lst sa_nil)))))
        (ss_app (i := 1) (sd_tup (sa_cons (sd_tup (sa_cons (sd_var 2) (sa_cons (sd_var 3) sa_nil))) (sa_cons (sd_call (sa_cons (sd_var 0) (sa_cons (sd_var 2) (sa_cons (sd_var 3) sa_nil)))) sa_nil))))
        ss_next)))
      (ss_frz 1 (ss_ret (sd_var 1)))))⟩
theorem ok__law_rows_below {f : Addr} {fd : FuncData} (Fn : Fun K "_law_rows_below" "_law_rows_below" s__law_rows_below f fd) (C_law_all_rows : Cal P w K mg base 1 "_law_all_rows" ["n"] (spP K 1 m_law_all_rows)) (C_law_is_below : Cal P w K mg base 1 "_law_is_below" ["u", "w"] (spP K 2 m_law_is_below)) (b_len : mg "len" = none) : FnOk P w K mg base CX0 2 f fd ["w"] (spP K 1 m_law_rows_below) :=
  def_P (k := 1) Fn sc__law_rows_below rfl rfl fun cdv A outer s H E hr => ⟨_,
      (pss_one (ps_ret (pe_lc (own := [("row", 1)]) (g := gName 1) rfl sc__law_rows_below.nd (pi_seq (pe_cal (C_law_all_rows.mono (by decide)) hr (by rfl) (pa_cons (pe_callB call_len_seq (by rfl) b_len (by decide +kernel) (pa_cons (pv 0) pa_nil)) pa_nil))) (blkOk_by (N := NM__law_rows_below) (sc := defScope s__law_rows_below) (by decide +kernel)) (fun _ _ _ _ _ => (pg_name (i := 1) sc__law_rows_below.nd rfl (by first | exact Or.inl rfl | exact Or.inr rfl))) (fun _ _ _ _ _ => (pts_one (pt_val (pe_cal (C_law_is_below.mono (by decide)) hr (by rfl) (pa_cons (pv 1) (pa_cons (pv 0) pa_nil)))))) (fun _ _ _ _ _ => (pv 1))))),
      (ss_ret (sd_fr (sn_lc (si_seq (sd_call (sa_cons (sd_C sC_len (sa_cons (sd_var 0) sa_nil)) sa_nil)) (tg_name 1)) (by decide) (st_B (sd_call (sa_cons (sd_var 1) (sa_cons (sd_var 0) sa_nil)))) (sd_var 1))))⟩
theorem ok_taken_once {f : Addr} {fd : FuncData} (Fn : Fun K "taken_once" "taken_once" s_taken_once f fd) (C_swapped : Cal P w K mg base 2 "swapped" ["row", "k"] (spP K 2 m_swapped)) : FnOk P w K mg base CX0 3 f fd ["row", "word"] (spP K 2 m_taken_once) :=
  def_P (k := 2) Fn sc_taken_once rfl rfl fun cdv A outer s H E hr => ⟨_,
      (pss_cons (ps_for PassesOwn.never rfl (pi_seq (pv 1)) (pg_name (i := 2) sc_taken_once.nd rfl (by first | exact Or.inl rfl | exact Or.inr rfl))
        (pss_one (ps_set (i := 0) sc_taken_once.nd rfl (by first | exact Or.inl rfl | exact Or.inr rfl) (pe_ifExp (pt_cmpR op_lt (pe_ix ix_seq (pv 0) (pv 2) (fun _ _ => rfl)) (pe_ix ix_seq (pv 0) (pe_op op_addA (pv 2) pe_int) (fun _ _ => rfl)) (by first | exact nomark _ | rfl)) (pe_cal (C_swapped.mono (by decide)) hr (by rfl) (pa_cons (pv 0) (pa_cons (pv 2) pa_nil))) (pv 0)))))
      (pss_one (ps_ret (pv 0)))),
      (ss_seq (ss_for (si_seq (sd_var 1) (tg_name 2))
        (ss_asg (i := 0) (su_fz (sd_if (st_Test (sd_2 s2_cmp (sd_2 s2_ix (sd_var 0) (sd_var 2)) (sd_2 s2_ix (sd_var 0) (sd_2 s2_add (sd_var 2) (sd_int 1))))) (sd_call (sa_cons (sd_var 0) (sa_cons (sd_var 2) sa_nil))) (sd_var 0)))))
      (ss_ret (sd_var 0)))⟩
theorem ok_taken_less {f : Addr} {fd : FuncData} (Fn : Fun K "taken_less" "taken_less" s_taken_less f fd) (C_swapped : Cal P w K mg base 2 "swapped" ["row", "k"] (spP K 2 m_swapped)) : FnOk P w K mg base CX0 3 f fd ["row", "word"] (spP K 2 m_taken_less) :=
  def_P (k := 2) Fn sc_taken_less rfl rfl fun cdv A outer s H E hr => ⟨_,
      (pss_cons (ps_for PassesOwn.never rfl (pi_seq (pe_revA (pv 1))) (pg_name (i := 2) sc_taken_less.nd rfl (by first | exact Or.inl rfl | exact Or.inr rfl))
        (pss_one (ps_set (i := 0) sc_taken_less.nd rfl (by first | exact Or.inl rfl | exact Or.inr rfl) (pe_ifExp (pt_cmpR op_gt (pe_ix ix_seq (pv 0) (pv 2) (fun _ _ => rfl)) (pe_ix ix_seq (pv 0) (pe_op op_addA (pv 2) pe_int) (fun _ _ => rfl)) (by first | exact nomark _ | rfl)) (pe_cal (C_swapped.mono (by decide)) hr (by rfl) (pa_cons (pv 0) (pa_cons (pv 2) pa_nil))) (pv 0)))))
      (pss_one (ps_ret (pv 0)))),
      (ss_seq (ss_for (si_seq (sd_revA (sd_var 1)) (tg_name 2))
        (ss_asg (i := 0) (su_fz (sd_if (st_Test (sd_2 s2_cmp (sd_2 s2_ix (sd_var 0) (sd_var 2)) (sd_2 s2_ix (sd_var 0) (sd_2 s2_add (sd_var 2) (sd_int 1))))) (sd_call (sa_cons (sd_var 0) (sa_cons (sd_var 2) sa_nil))) (sd_var 0)))))
      (ss_ret (sd_var 0)))⟩
theorem ok__law_row {f : Addr} {fd : FuncData} (Fn : Fun K "_law_row" "_law_row" s__law_row f fd) (C_law_mixed : Cal P w K mg base 2 "_law_mixed" ["source", "things"] (spY K 1 mixedM)) (b_range : mg "range" = none) (b_list : mg "list" = none) (b_tuple : mg "tuple" = none) : FnOk P w K mg base CX0 3 f fd ["source", "n"] (spY K 1 m_law_row) :=
  def_Y (k := 2) Fn sc__law_row rfl rfl fun cdv A outer s H E hr => ⟨_,
      (pss_one (ps_ret (pe_callTy call_tup0 (by rfl) b_tuple (by decide +kernel) (pa_cons (pe_cal (C_law_mixed.mono (by decide)) hr (by rfl) (pa_cons (pv 0) (pa_cons (pe_listRg rfl (by rfl) b_list (prg_1 (by rfl) b_range (pv 1))) pa_nil))) pa_nil)))),
      (ss_ret (sd_C sC_tuple (sa_cons (sd_draw (i := 0) (sa_cons (sd_fr (sn_range (sr_1 (sd_var 1)))) sa_nil)) sa_nil)))⟩
theorem ok__law_raised {f : Addr} {fd : FuncData} (Fn : Fun K "_law_raised" "_law_raised" s__law_raised f fd) (C_law_pick : Cal P w K mg base 1 "_law_pick" ["source", "many"] (spY K 1 pickM)) (C_law_steps : Cal P w K mg base 2 "_law_steps" ["u"] (spP K 1 m_law_steps)) (C_law_of : Cal P w K mg base 2 "_law_of" ["source", "some"] (spY K 1 m_law_of)) (b_range : mg "range" = none) : FnOk P w K mg base CX0 3 f fd ["source", "u", "most"] (spY K 2 m_law_raised) :=
  def_Y (k := 2) Fn sc__law_raised rfl rfl fun cdv A outer s H E hr => ⟨_,
      (pss_cons (ps_for PassesOwn.never rfl (pi_range1 (by rfl) b_range (pa_cons (pe_cal (C_law_pick.mono (by decide)) hr (by rfl) (pa_cons (pv 0) (pa_cons (pe_op op_addA (pv 2) pe_int) pa_nil))) pa_nil)) (pg_name (i := 3) sc__law_raised.nd rfl (by first | exact Or.inl rfl | exact Or.inr rfl))
        (pss_cons (ps_set (i := 4) sc__law_raised.nd rfl (by first | exact Or.inl rfl | exact Or.inr rfl) (pe_cal (C_law_steps.mono (by decide)) hr (by rfl) (pa_cons (pv 1) pa_nil)))
      (pss_one (ps_set (i := 1) sc__law_raised.nd rfl (by first | exact Or.inl rfl | exact Or.inr rfl) (pe_ifExp (pt_cmpR (op_neD hr.units) (pv 4) (pe_lst pa_nil) (by first | exact nomark _ | rfl)) (pe_ix ix_seq (pe_cal (C_law_of.mono (by decide)) hr (by rfl) (pa_cons (pv 0) (pa_cons (pv 4) pa_nil))) pe_int (fun _ _ => rfl)) (pv 1))))))
      (pss_one (ps_ret (pv 1)))),
      (ss_seq (ss_for (si_r1 (sd_draw (i := 0) (sa_cons (sd_2 s2_add (sd_var 2) (sd_int 1)) sa_nil)) (tg_name 3))
        (ss_seq (ss_asg (i := 4) (su_fz (sd_call (sa_cons (sd_var 1) sa_nil))))
      (ss_asg (i := 1) (su_fz (sd_if (st_Test (sd_2 s2_ne (sd_var 4) (sd_fr (sn_lst sa_nil)))) (sd_2 s2_ix (sd_draw (i := 0) (sa_cons (sd_var 4) sa_nil)) (sd_int 1)) (sd_var 1))))))
      (ss_ret (sd_var 1)))⟩
theorem ok_once {f : Addr} {fd : FuncData} (Fn : Fun K "once" "once" s_once f fd) (C_taken_once : Cal P w K mg base 3 "taken_once" ["row", "word"] (spP K 2 m_taken_once)) (C_first_word : Cal P w K mg base 1 "first_word" ["row"] (spP K 1 m_first_word)) : FnOk P w K mg base CX0 4 f fd ["one", "other"] (spP K 2 m_once) :=
  def_P (k := 3) Fn sc_once rfl rfl fun cdv A outer s H E hr => ⟨_,
      (pss_one (ps_ret (pe_cal (C_taken_once.mono (by decide)) hr (by rfl) (pa_cons (pv 0) (pa_cons (pe_cal (C_first_word.mono (by decide)) hr (by rfl) (pa_cons (pv 1) pa_nil)) pa_nil))))),
      (ss_ret (sd_call (sa_cons (sd_var 0) (sa_cons (sd_call (sa_cons (sd_var 1) sa_nil)) sa_nil))))⟩
theorem ok_less {f : Addr} {fd : FuncData} (Fn : Fun K "less" "less" s_less f fd) (C_taken_less : Cal P w K mg base 3 "taken_less" ["row", "word"] (spP K 2 m_taken_less)) (C_first_word : Cal P w K mg base 1 "first_word" ["row"] (spP K 1 m_first_word)) : FnOk P w K mg base CX0 4 f fd ["one", "other"] (spP K 2 m_less) :=
  def_P (k := 3) Fn sc_less rfl rfl fun cdv A outer s H E hr => ⟨_,
      (pss_one (ps_ret (pe_cal (C_taken_less.mono (by decide)) hr (by rfl) (pa_cons (pv 0) (pa_cons (pe_cal (C_first_word.mono (by decide)) hr (by rfl) (pa_cons (pv 1) pa_nil)) pa_nil))))),
      (ss_ret (sd_call (sa_cons (sd_var 0) (sa_cons (sd_call (sa_cons (sd_var 1) sa_nil)) sa_nil))))⟩
theorem ok__law_source {f : Addr} {fd : FuncData} (Fn : Fun K "_law_source" "_law_source" s__law_source f fd) (b_int : mg "int" = none) (b_abs : mg "abs" = none) : FnOk P w K mg base CX0 1 f fd ["script"] (spMk K mkSrc) := by
  refine Fn.ok sc__law_source (fun vs H Q E h => ?_) (fun cdv A outer s H vs Q E hr h => ?_)
  · obtain ⟨a, ns, rfl, _⟩ := h
    rfl
  · obtain ⟨a, ns, rfl, hS, hlen, q⟩ := h
    refine ⟨_, pss_cons (ps_set (i := 1) sc__law_source.nd rfl (.inl rfl) pe_int)
      (pss_cons (ps_for PassesOwn.never rfl (pi_list (pv 0)) (pg_name (i := 2) sc__law_source.nd rfl (.inl rfl))
        (pss_one (ps_set (i := 1) sc__law_source.nd rfl (.inl rfl) (pe_op op_mod (pe_callTy call_int1 (by rfl) b_int (by decide +kernel)
          (pa_cons (pe_op op_add (pe_op op_add (pe_op op_mul (pv 1) pe_int) (pe_op op_mul (pv 2) pe_int)) pe_int) pa_nil)) pe_int))))
      (pss_one (ps_ret (pe_disp (pps_cons pe_str (pe_revL (pe_lc (own := [("cell", 2)]) (g := gName 2) (tt := tYes) rfl sc__law_source.nd (pi_list (pv 0)) (blkOk_by (N := NM__law_source) (sc := defScope s__law_source) (by decide +kernel))
          (fun _ _ _ _ _ => pg_name (i := 2) sc__law_source.nd rfl (Or.inl rfl)) (fun _ _ _ _ _ => pts_nil) (fun _ _ _ _ _ => pe_callB call_abs (by rfl) b_abs (by decide +kernel) (pa_cons (pv 2) pa_nil))))
        (pps_cons pe_str pe_int (pps_cons pe_str (pv 1) (pps_cons pe_str pe_int pps_nil)))) (by rfl) (by rfl) (fun z => by cases z) (by decide))))), ?_⟩
    refine ⟨.ref a, rfl, a, rfl, ⟨_, hS⟩, for_list (K := K) (a := a) (xs := ns.map V.int) (fun i σ H' => H' = H ∧ ∃ y, σ = [some (.ref a), some (.int (mixI (ns.take i) 11)), y]) ⟨rfl, none, rfl⟩ (fun i σ H' _ h => by rw [h.1]; exact hS) ?_ ?_⟩
    · rintro i x σ H' hi ⟨rfl, y, rfl⟩
      rw [List.getElem?_map] at hi
      cases hc : ns[i]? with
      | none => rw [hc] at hi; cases hi
      | some c =>
        rw [hc] at hi
        cases hi
        have hb := mixI_lt (ns.take i) 11 (by decide) (by decide)
        refine ⟨.int (mixI (ns.take i) 11), rfl, _, _, rfl, rfl, .inl ⟨by omega, by omega⟩, .int c, rfl, _, _, rfl, rfl, .inr ⟨by decide, by decide⟩, _, _, rfl, rfl, _, _, rfl, rfl, .inl ⟨_, rfl, _, _, rfl, rfl, (by show (0 : Int) < 2147483629; decide), rfl, ?_⟩⟩
        refine ⟨some (.int c), ?_⟩
        rw [List.take_add_one, hc]
        show [_, some (V.int ((mixI (ns.take i) 11 * 69069 + c * 31 + 5) % 2147483629)), _] = [_, some (V.int (mixI (ns.take i ++ [c]) 11)), _]
        rw [mixI_snoc]
    · rintro σ H' ⟨rfl, y, rfl⟩
      rw [List.length_map, List.take_length]
      -- the dict
      intro p hp
      refine ⟨.ref a, rfl, a, rfl, ⟨_, (same_new hp : Same H' _).seq hS⟩, fun D hD => ?_⟩
      have hpD : D ≠ p := fun z => by rw [z, upd_same] at hD; cases hD
      have hDH : H' D = none := by rw [upd_ne hpD] at hD; exact hD
      refine lc_list (K := K) (a := a) (xs := ns.map V.int) (fun i H2 => Same H' H2 ∧ H2 p = some (.dK []) ∧ H2 D = some (.lst ((ns.take i).map fun c => V.int (absI c)))) ⟨?_, ?_, upd_same⟩ (fun i H2 _ h => h.1.seq hS) ?_ ?_
      · exact (same_new hp).trans (same_new hD)
      · rw [upd_ne hpD.symm, upd_same]
      · rintro i x H2 hi ⟨e1, e2, e3⟩
        rw [List.getElem?_map] at hi
        cases hc : ns[i]? with
        | none => rw [hc] at hi; cases hi
        | some c =>
          rw [hc] at hi
          cases hi
          refine ⟨rfl, ?_⟩
          refine ⟨.int c, rfl, c, rfl, _, e3, small1000 (by rw [List.length_map, List.length_take]; omega), ?_, ?_, ?_⟩
          · exact fun b o e => by rw [upd_ne (ne_of_none e hDH)]; exact e1 b o e
          · rw [upd_ne hpD.symm]; exact e2
          · rw [upd_same, List.take_add_one, hc, List.map_append]
            rfl
      · rintro H2 ⟨e1, e2, e3⟩
        rw [List.length_map, List.take_length] at e3
        refine ⟨D, _, rfl, SqL.of e3, fun c hc => ?_⟩
        have hcp : p ≠ c := ne_of_none e2 hc
        refine ⟨_, rfl, by rw [upd_ne hcp]; exact e2, (mkSrc ns).kvs c, ?_, (by show 4 ≤ 15; decide), ?_⟩
        · rfl
        · refine q p c _ hp (e1.free hc) hcp ?_ ?_ ?_
          · exact fun b o e => by rw [upd_ne (ne_of_none e hp), upd_ne (ne_of_none (e1 b o e) hc)]; exact e1 b o e
          · rw [upd_same]
            rfl
          · rw [upd_ne hcp.symm, upd_same, mkSrc, List.map_reverse, List.map_map]
            rfl
theorem ok__law_pick {f : Addr} {fd : FuncData} (Fn : Fun K "_law_pick" "_law_pick" s__law_pick f fd) (b_len : mg "len" = none) (b_max : mg "max" = none) (b_int : mg "int" = none) : FnOk P w K mg base CX0 1 f fd ["source", "many"] (spY K 1 pickM) :=
  (def_Y (k := 0) (kk := 2) (G := pickG) Fn sc__law_pick rfl rfl fun cdv A outer s H E hr => ⟨_,
      (pss_cons (ps_while PassesOwn.never (PW.pt (pw_and (pt_cmpR op_gt (pv 1) pe_int (by first | exact nomark _ | rfl)) (pw_and (pt_cmpR op_lt (pe_dget (hu_of hr) (pv 0) pe_str (fun _ _ => rfl)) pe_int (by first | exact nomark _ | rfl)) (pw_and1 (pt_cmpR op_gt (pe_callB call_len_seq (by rfl) b_len (by decide +kernel) (pa_cons (pe_dget (hu_of hr) (pv 0) pe_str (fun _ _ => rfl)) pa_nil)) pe_int (by first | exact nomark _ | rfl))))))
        (pss_one (ps_dput (hu_of hr) (pv 0) pe_str (pe_bm0 PySem.F.plainAttrs_list PySem.F.slot_list_pop PySem.F.type_list_pop mt_pop (pe_dget (hu_of hr) (pv 0) pe_str (fun _ _ => rfl))) rfl)))
      (pss_cons (ps_set (i := 2) sc__law_pick.nd rfl (by first | exact Or.inl rfl | exact Or.inr rfl) (pe_dget (hu_of hr) (pv 0) pe_str (fun _ _ => rfl)))
      (pss_cons (ps_if (PW.pt (pw_or (pt_cmpR op_lt (pv 1) pe_int (by first | exact nomark _ | rfl)) (pw_or1 (pt_cmpR op_gt (pv 2) pe_int (by first | exact nomark _ | rfl)))))
        (pss_cons (ps_dput (hu_of hr) (pv 0) pe_str (pe_op op_fdivN (pv 2) (pe_callB (cr_maxA rfl) (by rfl) b_max (by decide +kernel) (pa_cons pe_int (pa_cons (pv 1) pa_nil)))) rfl)
      (pss_one (ps_ret (pe_op op_modN (pe_callTy call_int1 (by rfl) b_int (by decide +kernel) (pa_cons (pv 2) pa_nil)) (pe_callB (cr_maxA rfl) (by rfl) b_max (by decide +kernel) (pa_cons pe_int (pa_cons (pv 1) pa_nil)))))))
        pss_nil)
      (pss_cons (ps_dput (hu_of hr) (pv 0) pe_str (pe_op op_addA (pe_dget (hu_of hr) (pv 0) pe_str (fun _ _ => rfl)) pe_int) rfl)
      (pss_cons (ps_set (i := 3) sc__law_pick.nd rfl (by first | exact Or.inl rfl | exact Or.inr rfl) (pe_op op_modN (pe_callTy call_int1 (by rfl) b_int (by decide +kernel) (pa_cons (pe_op op_addA (pe_dget (hu_of hr) (pv 0) pe_str (fun _ _ => rfl)) (pe_op op_mulA (pe_dget (hu_of hr) (pv 0) pe_str (fun _ _ => rfl)) pe_int)) pa_nil)) pe_int))
      (pss_cons (ps_set (i := 3) sc__law_pick.nd rfl (by first | exact Or.inl rfl | exact Or.inr rfl) (pe_op op_modN (pe_callTy call_int1 (by rfl) b_int (by decide +kernel) (pa_cons (pe_op op_addA (pe_op op_mulA (pv 3) (pv 3)) (pe_op op_mulA (pe_dget (hu_of hr) (pv 0) pe_str (fun _ _ => rfl)) pe_int)) pa_nil)) pe_int))
      (pss_cons (ps_dput (hu_of hr) (pv 0) pe_str (pv 3) rfl)
      (pss_one (ps_ret (pe_op op_modN (pe_callTy call_int1 (by rfl) b_int (by decide +kernel) (pa_cons (pe_op op_fdivN (pv 3) pe_int) pa_nil)) (pv 1))))))))))),
      (ss_seq (ss_while (st_and (st_Test (sd_2 s2_cmp (sd_var 1) (sd_int 1))) (st_and (st_Test (sd_2 s2_cmp (sd_left 0) (sd_int 2))) (st_Test (sd_2 s2_cmp (sd_lenC 0) (sd_int 0)))))
        (ss_popC 0))
      (ss_seq (ss_asg (i := 2) (su_fz (sd_left 0)))
      (ss_seq (ss_if (st_or (st_Test (sd_2 s2_cmp (sd_var 1) (sd_int 2))) (st_Test (sd_2 s2_cmp (sd_var 2) (sd_int 1))))
        (ss_seq (ss_wrL (i := 0) (sd_2 s2_fdiv (sd_var 2) (sd_C sC_max (sa_cons (sd_int 1) (sa_cons (sd_var 1) sa_nil)))))
      (ss_ret (sd_2 s2_mod (sd_C sC_int (sa_cons (sd_var 2) sa_nil)) (sd_C sC_max (sa_cons (sd_int 1) (sa_cons (sd_var 1) sa_nil))))))
        ss_next)
      (ss_seq (ss_wrT (i := 0) (sd_2 s2_add (sd_turn 0) (sd_int 1)))
      (ss_seq (ss_asg (i := 3) (su_fz (sd_2 s2_mod (sd_C sC_int (sa_cons (sd_2 s2_add (sd_mixed 0) (sd_2 s2_mul (sd_turn 0) (sd_int 104729))) sa_nil)) (sd_int 998244353))))
      (ss_seq (ss_asg (i := 3) (su_fz (sd_2 s2_mod (sd_C sC_int (sa_cons (sd_2 s2_add (sd_2 s2_mul (sd_var 3) (sd_var 3)) (sd_2 s2_mul (sd_turn 0) (sd_int 17))) sa_nil)) (sd_int 2147483647))))
      (ss_seq (ss_wrM (i := 0) (sd_var 3))
      (ss_ret (sd_2 s2_mod (sd_C sC_int (sa_cons (sd_2 s2_fdiv (sd_var 3) (sd_int 16)) sa_nil)) (sd_var 1))))))))))⟩).imp (spY_weak pick_run)
theorem ok__law_mixed {f : Addr} {fd : FuncData} (Fn : Fun K "_law_mixed" "_law_mixed" s__law_mixed f fd) (C_law_pick : Cal P w K mg base 1 "_law_pick" ["source", "many"] (spY K 1 pickM)) (b_list : mg "list" = none) (b_len : mg "len" = none) (b_range : mg "range" = none) : FnOk P w K mg base CX0 2 f fd ["source", "things"] (spY K 1 mixedM) :=
  (def_Y (k := 1) (kk := 2) (G := seqS (asgS 2 (owU (ynC listC (aCons (varY 1) aNil)))) mixG) Fn sc__law_mixed rfl rfl fun cdv A outer s H E hr => ⟨_,
      pss_cons (ps_set (i := 2) sc__law_mixed.nd rfl (by first | exact Or.inl rfl | exact Or.inr rfl) (pe_callTy call_list_of (by rfl) b_list (by decide +kernel) (pa_cons (pv 1) pa_nil)))
      (pss_one (ps_ret (pe_lc (own := [("lap", 3)]) (g := gName 3) (tt := tYes) rfl sc__law_mixed.nd (pi_range1 (by rfl) b_range (pa_cons (pe_callB call_len_seq (by rfl) b_len (by decide +kernel) (pa_cons (pv 2) pa_nil)) pa_nil))
        (blkOk_by (N := NM__law_mixed) (sc := defScope s__law_mixed) (by decide +kernel)) (fun _ _ _ _ _ => (pg_name (i := 3) sc__law_mixed.nd rfl (by first | exact Or.inl rfl | exact Or.inr rfl))) (fun _ _ _ _ _ => pts_nil)
        (fun _ _ _ _ _ => (pe_bm PySem.F.plainAttrs_list PySem.F.slot_list_pop PySem.F.type_list_pop mt_popAt (pv 2) (pa_cons (pe_cal (C_law_pick.mono (by decide)) hr (by rfl) (pa_cons (pv 0) (pa_cons (pe_callB call_len_seq (by rfl) b_len (by decide +kernel) (pa_cons (pv 2) pa_nil)) pa_nil))) pa_nil)))))),
      ss_seq (ss_asg (i := 2) (su_ow (sn_C sCN_list (sa_cons (sd_var 1) sa_nil)))) ss_mixed⟩).imp (spY_weak mix_run)
theorem ok_law {f : Addr} {fd : FuncData} (Fn : Fun K "law" "law" s_law f fd) (C_law_source : Cal P w K mg base 1 "_law_source" ["script"] (spMk K mkSrc)) (C_law_pick : Cal P w K mg base 1 "_law_pick" ["source", "many"] (spY K 1 pickM)) (C_law_row : Cal P w K mg base 3 "_law_row" ["source", "n"] (spY K 1 m_law_row)) (C_law_rows_below : Cal P w K mg base 2 "_law_rows_below" ["w"] (spP K 1 m_law_rows_below)) (C_law_behind : Cal P w K mg base 1 "_law_behind" ["one", "other"] (spP K 2 m_law_behind)) (C_once : Cal P w K mg base 4 "once" ["one", "other"] (spP K 2 m_once)) (C_law_is_below : Cal P w K mg base 1 "_law_is_below" ["u", "w"] (spP K 2 m_law_is_below)) (C_law_other_way : Cal P w K mg base 1 "_law_other_way" ["row"] (spP K 1 m_law_other_way)) (C_less : Cal P w K mg base 4 "less" ["one", "other"] (spP K 2 m_less)) (C_law_length : Cal P w K mg base 1 "_law_length" ["row"] (spP K 1 m_law_length)) (C_law_raised : Cal P w K mg base 3 "_law_raised" ["source", "u", "most"] (spY K 2 m_law_raised)) (b_range : mg "range" = none) (b_max : mg "max" = none) (b_tuple : mg "tuple" = none) (hlaw : ∀ ns : List Int, ns.length ≤ 63 → ∃ s, G_law ((List.replicate 17 Sl.un).set 1 .sr) (mkSrc ns) = some (.rt (.bool true), s)) : FnOk P w K mg base CX0 5 f fd ["script"] (spLaw K) := by
  refine Fn.ok sc_law (fun vs H Q E h => ?_) (fun cdv A outer s H vs Q E hr h => ?_)
  · obtain ⟨a, ns, rfl, _⟩ := h
    rfl
  · obtain ⟨a, ns, rfl, hS, hlen, q⟩ := h
    obtain ⟨s2, e⟩ := hlaw ns hlen
    refine ⟨_, pss_cons (ps_set (i := 1) sc_law.nd rfl (by first | exact Or.inl rfl | exact Or.inr rfl) (pe_cal (C_law_source.mono (by decide)) (hr : Room 4 _) (by rfl) (pa_cons (pv 0) pa_nil)))
      (pss_cons (ps_for PassesOwn.never rfl (pi_range1 (by rfl) b_range (pa_cons pe_int pa_nil)) (pg_name (i := 2) sc_law.nd rfl (by first | exact Or.inl rfl | exact Or.inr rfl))
        (pss_cons (ps_set (i := 3) sc_law.nd rfl (by first | exact Or.inl rfl | exact Or.inr rfl) (pe_op op_addA pe_int (pe_cal (C_law_pick.mono (by decide)) hr (by rfl) (pa_cons (pv 1) (pa_cons pe_int pa_nil)))))
      (pss_cons (ps_asg (pe_tup0 (pa_cons (pe_cal (C_law_row.mono (by decide)) hr (by rfl) (pa_cons (pv 1) (pa_cons (pv 3) pa_nil))) (pa_cons (pe_cal (C_law_row.mono (by decide)) hr (by rfl) (pa_cons (pv 1) (pa_cons (pv 3) pa_nil))) (pa_cons (pe_cal (C_law_row.mono (by decide)) hr (by rfl) (pa_cons (pv 1) (pa_cons (pv 3) pa_nil))) pa_nil)))) (pg_tup rfl (pgs_cons (pg_name (i := 4) sc_law.nd rfl (by first | exact Or.inl rfl | exact Or.inr rfl)) (pgs_cons (pg_name (i := 5) sc_law.nd rfl (by first | exact Or.inl rfl | exact Or.inr rfl)) (pgs_cons (pg_name (i := 6) sc_law.nd rfl (by first | exact Or.inl rfl | exact Or.inr rfl)) pgs_nil)))))
      (pss_cons (ps_setLc (i := 7) (own := [("one", 14)]) (g := gName 14) (tt := tYes) rfl sc_law.nd rfl rfl (sw_true rfl rfl rfl (by decide +kernel)) (pi_seq (pe_cal (C_law_rows_below.mono (by decide)) hr (by rfl) (pa_cons (pv 4) pa_nil))) (blkOk_by (N := NM_law) (sc := defScope s_law) (by decide +kernel)) (fun _ _ _ _ _ => (pg_name (i := 14) sc_law.nd rfl (by first | exact Or.inl rfl | exact Or.inr rfl))) (fun _ _ _ _ _ => pts_nil) (fun _ _ _ _ _ => (pe_cal (C_law_behind.mono (by decide)) hr (by rfl) (pa_cons (pv 14) (pa_cons (pv 5) pa_nil)))))
      (pss_cons (ps_set (i := 8) sc_law.nd rfl (by first | exact Or.inl rfl | exact Or.inr rfl) (pe_cal (C_once.mono (by decide)) hr (by rfl) (pa_cons (pv 4) (pa_cons (pv 5) pa_nil))))
      (pss_cons (ps_if (pt_cmpR (op_neD hr.units) (pe_lc (own := [("row", 15)]) (g := gName 15) rfl sc_law.nd (pi_seq (pv 7)) (blkOk_by (N := NM_law) (sc := defScope s_law) (by decide +kernel)) (fun _ _ _ _ _ => (pg_name (i := 15) sc_law.nd rfl (by first | exact Or.inl rfl | exact Or.inr rfl))) (fun _ _ _ _ _ => (pts_one (pt_not (pt_val (pe_cal (C_law_is_below.mono (by decide)) hr (by rfl) (pa_cons (pv 15) (pa_cons (pv 8) pa_nil))))))) (fun _ _ _ _ _ => (pv 15))) (pe_lst pa_nil) (by first | exact nomark _ | rfl))
        (pss_one (ps_ret pe_bl))
        pss_nil)
      (pss_cons (ps_setLc (i := 7) (own := [("other", 16)]) (g := gName 16) (tt := tYes) rfl sc_law.nd rfl rfl (sw_true rfl rfl rfl (by decide +kernel)) (pi_seq (pe_cal (C_law_rows_below.mono (by decide)) hr (by rfl) (pa_cons (pv 5) pa_nil))) (blkOk_by (N := NM_law) (sc := defScope s_law) (by decide +kernel)) (fun _ _ _ _ _ => (pg_name (i := 16) sc_law.nd rfl (by first | exact Or.inl rfl | exact Or.inr rfl))) (fun _ _ _ _ _ => pts_nil) (fun _ _ _ _ _ => (pe_cal (C_law_behind.mono (by decide)) hr (by rfl) (pa_cons (pv 4) (pa_cons (pv 16) pa_nil)))))
      (pss_cons (ps_if (PW.pt (pw_or (pt_cmpR (op_neD hr.units) (pe_lc (own := [("row", 15)]) (g := gName 15) rfl sc_law.nd (pi_seq (pv 7)) (blkOk_by (N := NM_law) (sc := defScope s_law) (by decide +kernel)) (fun _ _ _ _ _ => (pg_name (i := 15) sc_law.nd rfl (by first | exact Or.inl rfl | exact Or.inr rfl))) (fun _ _ _ _ _ => (pts_one (pt_not (pt_val (pe_cal (C_law_is_below.mono (by decide)) hr (by rfl) (pa_cons (pv 15) (pa_cons (pv 8) pa_nil))))))) (fun _ _ _ _ _ => (pv 15))) (pe_lst pa_nil) (by first | exact nomark _ | rfl)) (pw_or1 (pt_cmpR (op_notInA (room65 hr)) (pv 8) (pv 7) (by first | exact nomark _ | rfl)))))
        (pss_one (ps_ret pe_bl))
        pss_nil)
      (pss_cons (ps_setLc (i := 9) (own := [("other", 16)]) (g := gName 16) (tt := tYes) rfl sc_law.nd rfl rfl (sw_true rfl rfl rfl (by decide +kernel)) (pi_seq (pe_cal (C_law_rows_below.mono (by decide)) hr (by rfl) (pa_cons (pv 5) pa_nil))) (blkOk_by (N := NM_law) (sc := defScope s_law) (by decide +kernel)) (fun _ _ _ _ _ => (pg_name (i := 16) sc_law.nd rfl (by first | exact Or.inl rfl | exact Or.inr rfl))) (fun _ _ _ _ _ => pts_nil) (fun _ _ _ _ _ => (pe_cal (C_law_behind.mono (by decide)) hr (by rfl) (pa_cons (pv 4) (pa_cons (pe_cal (C_law_other_way.mono (by decide)) hr (by rfl) (pa_cons (pv 16) pa_nil)) pa_nil)))))
      (pss_cons (ps_set (i := 10) sc_law.nd rfl (by first | exact Or.inl rfl | exact Or.inr rfl) (pe_cal (C_less.mono (by decide)) hr (by rfl) (pa_cons (pv 4) (pa_cons (pv 5) pa_nil))))
      (pss_cons (ps_if (PW.pt (pw_or (pt_cmpR (op_neD hr.units) (pe_lc (own := [("row", 15)]) (g := gName 15) rfl sc_law.nd (pi_seq (pv 9)) (blkOk_by (N := NM_law) (sc := defScope s_law) (by decide +kernel)) (fun _ _ _ _ _ => (pg_name (i := 15) sc_law.nd rfl (by first | exact Or.inl rfl | exact Or.inr rfl))) (fun _ _ _ _ _ => (pts_one (pt_not (pt_val (pe_cal (C_law_is_below.mono (by decide)) hr (by rfl) (pa_cons (pv 10) (pa_cons (pv 15) pa_nil))))))) (fun _ _ _ _ _ => (pv 15))) (pe_lst pa_nil) (by first | exact nomark _ | rfl)) (pw_or1 (pt_cmpR (op_notInA (room65 hr)) (pv 10) (pv 9) (by first | exact nomark _ | rfl)))))
        (pss_one (ps_ret pe_bl))
        pss_nil)
      (pss_cons (ps_if (PW.pt (pw_or (pt_cmpR (op_neD hr.units) (pe_cal (C_once.mono (by decide)) hr (by rfl) (pa_cons (pe_cal (C_once.mono (by decide)) hr (by rfl) (pa_cons (pv 4) (pa_cons (pv 5) pa_nil))) (pa_cons (pv 6) pa_nil))) (pe_cal (C_once.mono (by decide)) hr (by rfl) (pa_cons (pv 4) (pa_cons (pe_cal (C_once.mono (by decide)) hr (by rfl) (pa_cons (pv 5) (pa_cons (pv 6) pa_nil))) pa_nil))) (by first | exact nomark _ | rfl)) (pw_or1 (pt_cmpR (op_neD hr.units) (pe_cal (C_less.mono (by decide)) hr (by rfl) (pa_cons (pe_cal (C_less.mono (by decide)) hr (by rfl) (pa_cons (pv 4) (pa_cons (pv 5) pa_nil))) (pa_cons (pv 6) pa_nil))) (pe_cal (C_less.mono (by decide)) hr (by rfl) (pa_cons (pv 4) (pa_cons (pe_cal (C_once.mono (by decide)) hr (by rfl) (pa_cons (pv 6) (pa_cons (pv 5) pa_nil))) pa_nil))) (by first | exact nomark _ | rfl)))))
        (pss_one (ps_ret pe_bl))
        pss_nil)
      (pss_cons (ps_set (i := 11) sc_law.nd rfl (by first | exact Or.inl rfl | exact Or.inr rfl) (pe_cmpR (op_eqD hr.units) (pe_cal (C_law_length.mono (by decide)) hr (by rfl) (pa_cons (pe_cal (C_law_behind.mono (by decide)) hr (by rfl) (pa_cons (pv 4) (pa_cons (pv 5) pa_nil))) pa_nil)) (pe_op op_addA (pe_cal (C_law_length.mono (by decide)) hr (by rfl) (pa_cons (pv 4) pa_nil)) (pe_cal (C_law_length.mono (by decide)) hr (by rfl) (pa_cons (pv 5) pa_nil))) (by first | exact nomark _ | rfl)))
      (pss_cons (ps_if (PW.pt (pw_or (pt_cmpR (op_neD hr.units) (pe_cmpR (op_eqD hr.units) (pv 8) (pe_cal (C_law_behind.mono (by decide)) hr (by rfl) (pa_cons (pv 4) (pa_cons (pv 5) pa_nil))) (by first | exact nomark _ | rfl)) (pv 11) (by first | exact nomark _ | rfl)) (pw_or1 (pt_cmpR op_lt (pe_cal (C_law_length.mono (by decide)) hr (by rfl) (pa_cons (pv 8) pa_nil)) (pe_callB (cr_maxA rfl) (by rfl) b_max (by decide +kernel) (pa_cons (pe_cal (C_law_length.mono (by decide)) hr (by rfl) (pa_cons (pv 4) pa_nil)) (pa_cons (pe_cal (C_law_length.mono (by decide)) hr (by rfl) (pa_cons (pv 5) pa_nil)) pa_nil))) (by first | exact nomark _ | rfl)))))
        (pss_one (ps_ret pe_bl))
        pss_nil)
      (pss_one (ps_for PassesOwn.never rfl (pi_range1 (by rfl) b_range (pa_cons pe_int pa_nil)) (pg_name (i := 12) sc_law.nd rfl (by first | exact Or.inl rfl | exact Or.inr rfl))
        (pss_cons (ps_set (i := 3) sc_law.nd rfl (by first | exact Or.inl rfl | exact Or.inr rfl) (pe_op op_addA pe_int (pe_cal (C_law_pick.mono (by decide)) hr (by rfl) (pa_cons (pv 1) (pa_cons pe_int pa_nil)))))
      (pss_cons (ps_asg (pe_tup0 (pa_cons (pe_cal (C_law_row.mono (by decide)) hr (by rfl) (pa_cons (pv 1) (pa_cons (pv 3) pa_nil))) (pa_cons (pe_cal (C_law_row.mono (by decide)) hr (by rfl) (pa_cons (pv 1) (pa_cons (pv 3) pa_nil))) (pa_cons (pe_cal (C_law_row.mono (by decide)) hr (by rfl) (pa_cons (pv 1) (pa_cons (pv 3) pa_nil))) pa_nil)))) (pg_tup rfl (pgs_cons (pg_name (i := 4) sc_law.nd rfl (by first | exact Or.inl rfl | exact Or.inr rfl)) (pgs_cons (pg_name (i := 5) sc_law.nd rfl (by first | exact Or.inl rfl | exact Or.inr rfl)) (pgs_cons (pg_name (i := 13) sc_law.nd rfl (by first | exact Or.inl rfl | exact Or.inr rfl)) pgs_nil)))))
      (pss_cons (ps_set (i := 13) sc_law.nd rfl (by first | exact Or.inl rfl | exact Or.inr rfl) (pe_ifExp (pt_cmpR (op_eqD hr.units) (pe_cal (C_law_pick.mono (by decide)) hr (by rfl) (pa_cons (pv 1) (pa_cons pe_int pa_nil))) pe_int (by first | exact nomark _ | rfl)) (pv 13) (pe_cal (C_less.mono (by decide)) hr (by rfl) (pa_cons (pe_cal (C_once.mono (by decide)) hr (by rfl) (pa_cons (pv 4) (pa_cons (pv 5) pa_nil))) (pa_cons (pe_cal (C_law_raised.mono (by decide)) hr (by rfl) (pa_cons (pv 1) (pa_cons (pe_tupRg0 rfl (by rfl) b_tuple (prg_1 (by rfl) b_range (pv 3))) (pa_cons pe_int pa_nil)))) pa_nil)))))
      (pss_one (ps_if (pt_cmpR (op_neD hr.units) (pe_cal (C_law_is_below.mono (by decide)) hr (by rfl) (pa_cons (pv 13) (pa_cons (pe_cal (C_once.mono (by decide)) hr (by rfl) (pa_cons (pv 4) (pa_cons (pv 5) pa_nil))) pa_nil))) (pe_cal (C_law_is_below.mono (by decide)) hr (by rfl) (pa_cons (pe_cal (C_less.mono (by decide)) hr (by rfl) (pa_cons (pv 13) (pa_cons (pv 5) pa_nil))) (pa_cons (pv 4) pa_nil))) (by first | exact nomark _ | rfl))
        (pss_one (ps_ret pe_bl))
        pss_nil)))))))))))))))))))))
      (pss_one (ps_ret pe_bl))), ?_⟩
    exact law_end (kk := 17)
      (ss_seq (ss_for (si_r1 (sd_int 3) (tg_name 2))
        (ss_seq (ss_asg (i := 3) (su_fz (sd_2 s2_add (sd_int 1) (sd_draw (i := 1) (sa_cons (sd_int 4) sa_nil)))))
      (ss_seq (ss_parT3 (i := 4) (j := 5) (l := 6) (su_fz (sd_draw (i := 1) (sa_cons (sd_var 3) sa_nil))) (su_fz (sd_draw (i := 1) (sa_cons (sd_var 3) sa_nil))) (su_fz (sd_draw (i := 1) (sa_cons (sd_var 3) sa_nil))))
      (ss_seq (ss_asg (i := 7) (su_fz (sd_fr (sn_lc (si_seq (sd_call (sa_cons (sd_var 4) sa_nil)) (tg_name 14)) (by decide) st_yes (sd_call (sa_cons (sd_var 14) (sa_cons (sd_var 5) sa_nil)))))))
      (ss_seq (ss_asg (i := 8) (su_fz (sd_call (sa_cons (sd_var 4) (sa_cons (sd_var 5) sa_nil)))))
      (ss_seq (ss_if (st_Test (sd_2 s2_ne (sd_fr (sn_lc (si_seq (sd_var 7) (tg_name 15)) (by decide) (st_not (st_B (sd_call (sa_cons (sd_var 15) (sa_cons (sd_var 8) sa_nil))))) (sd_var 15))) (sd_fr (sn_lst sa_nil))))
        (ss_ret (sd_bl false))
        ss_next)
      (ss_seq (ss_asg (i := 7) (su_fz (sd_fr (sn_lc (si_seq (sd_call (sa_cons (sd_var 5) sa_nil)) (tg_name 16)) (by decide) st_yes (sd_call (sa_cons (sd_var 4) (sa_cons (sd_var 16) sa_nil)))))))
      (ss_seq (ss_if (st_or (st_Test (sd_2 s2_ne (sd_fr (sn_lc (si_seq (sd_var 7) (tg_name 15)) (by decide) (st_not (st_B (sd_call (sa_cons (sd_var 15) (sa_cons (sd_var 8) sa_nil))))) (sd_var 15))) (sd_fr (sn_lst sa_nil)))) (st_Test (sd_2 s2_in (sd_var 8) (sd_var 7))))
        (ss_ret (sd_bl false))
        ss_next)
      (ss_seq (ss_asg (i := 9) (su_fz (sd_fr (sn_lc (si_seq (sd_call (sa_cons (sd_var 5) sa_nil)) (tg_name 16)) (by decide) st_yes (sd_call (sa_cons (sd_var 4) (sa_cons (sd_call (sa_cons (sd_var 16) sa_nil)) sa_nil)))))))
      (ss_seq (ss_asg (i := 10) (su_fz (sd_call (sa_cons (sd_var 4) (sa_cons (sd_var 5) sa_nil)))))
      (ss_seq (ss_if (st_or (st_Test (sd_2 s2_ne (sd_fr (sn_lc (si_seq (sd_var 9) (tg_name 15)) (by decide) (st_not (st_B (sd_call (sa_cons (sd_var 10) (sa_cons (sd_var 15) sa_nil))))) (sd_var 15))) (sd_fr (sn_lst sa_nil)))) (st_Test (sd_2 s2_in (sd_var 10) (sd_var 9))))
        (ss_ret (sd_bl false))
        ss_next)
      (ss_seq (ss_if (st_or (st_Test (sd_2 s2_ne (sd_call (sa_cons (sd_call (sa_cons (sd_var 4) (sa_cons (sd_var 5) sa_nil))) (sa_cons (sd_var 6) sa_nil))) (sd_call (sa_cons (sd_var 4) (sa_cons (sd_call (sa_cons (sd_var 5) (sa_cons (sd_var 6) sa_nil))) sa_nil))))) (st_Test (sd_2 s2_ne (sd_call (sa_cons (sd_call (sa_cons (sd_var 4) (sa_cons (sd_var 5) sa_nil))) (sa_cons (sd_var 6) sa_nil))) (sd_call (sa_cons (sd_var 4) (sa_cons (sd_call (sa_cons (sd_var 6) (sa_cons (sd_var 5) sa_nil))) sa_nil))))))
        (ss_ret (sd_bl false))
        ss_next)
      (ss_seq (ss_asg (i := 11) (su_fz (sd_2 s2_eq (sd_call (sa_cons (sd_call (sa_cons (sd_var 4) (sa_cons (sd_var 5) sa_nil))) sa_nil)) (sd_2 s2_add (sd_call (sa_cons (sd_var 4) sa_nil)) (sd_call (sa_cons (sd_var 5) sa_nil))))))
      (ss_seq (ss_if (st_or (st_Test (sd_2 s2_ne (sd_2 s2_eq (sd_var 8) (sd_call (sa_cons (sd_var 4) (sa_cons (sd_var 5) sa_nil)))) (sd_var 11))) (st_Test (sd_2 s2_cmp (sd_call (sa_cons (sd_var 8) sa_nil)) (sd_C sC_max (sa_cons (sd_call (sa_cons (sd_var 4) sa_nil)) (sa_cons (sd_call (sa_cons (sd_var 5) sa_nil)) sa_nil))))))
        (ss_ret (sd_bl false))
        ss_next)
      (ss_for (si_r1 (sd_int 4) (tg_name 12))
        (ss_seq (ss_asg (i := 3) (su_fz (sd_2 s2_add (sd_int 1) (sd_draw (i := 1) (sa_cons (sd_int 12) sa_nil)))))
      (ss_seq (ss_parT3 (i := 4) (j := 5) (l := 13) (su_fz (sd_draw (i := 1) (sa_cons (sd_var 3) sa_nil))) (su_fz (sd_draw (i := 1) (sa_cons (sd_var 3) sa_nil))) (su_fz (sd_draw (i := 1) (sa_cons (sd_var 3) sa_nil))))
      (ss_seq (ss_asg (i := 13) (su_fz (sd_if (st_Test (sd_2 s2_eq (sd_draw (i := 1) (sa_cons (sd_int 2) sa_nil)) (sd_int 0))) (sd_var 13) (sd_call (sa_cons (sd_call (sa_cons (sd_var 4) (sa_cons (sd_var 5) sa_nil))) (sa_cons (sd_draw (i := 1) (sa_cons (sd_trange (sr_1 (sd_var 3))) (sa_cons (sd_int 2) sa_nil))) sa_nil))))))
      (ss_if (st_Test (sd_2 s2_ne (sd_call (sa_cons (sd_var 13) (sa_cons (sd_call (sa_cons (sd_var 4) (sa_cons (sd_var 5) sa_nil))) sa_nil))) (sd_call (sa_cons (sd_call (sa_cons (sd_var 13) (sa_cons (sd_var 5) sa_nil))) (sa_cons (sd_var 4) sa_nil)))))
        (ss_ret (sd_bl false))
        ss_next)))))))))))))))))))
      (ss_ret (sd_bl true)))
      hS hlen (by decide) e q
theorem all_mk (hlaw : ∀ ns : List Int, ns.length ≤ 63 → ∃ s, G_law ((List.replicate 17 Sl.un).set 1 .sr) (mkSrc ns) = some (.rt (.bool true), s)) {l : PySem.W.OpenLaw} {w : World} {K : PySem.W.Frag} {mg : Str → Option Value} {fa : Addr} {h : Heap} (X : K.In h) (G : h.Ns mainGlobals mg) (hfa : mg "law" = some (.ref fa))
    {f1 f2 f3 f4 f5 f6 f7 f8 f9 f10 f11 f12 f13 f14 f15 f16 f17 f18 f19 f20 f21 f22 : Addr} {od1 an1 od2 an2 od3 an3 od4 an4 od5 an5 od6 an6 od7 an7 od8 an8 od9 an9 od10 an10 od11 an11 od12 an12 od13 an13 od14 an14 od15 an15 od16 an16 od17 an17 od18 an18 od19 an19 od20 an20 od21 an21 od22 an22 : Option Addr} {sl1 sl2 sl3 sl4 sl5 sl6 sl7 sl8 sl9 sl10 sl11 sl12 sl13 sl14 sl15 sl16 sl17 sl18 sl19 sl20 sl21 sl22 : Array (Option Value)} {oc1 kV1 dc1 pm1 cd1 ct1 oc2 kV2 dc2 pm2 cd2 ct2 oc3 kV3 dc3 pm3 cd3 ct3 oc4 kV4 dc4 pm4 cd4 ct4 oc5 kV5 dc5 pm5 cd5 ct5 oc6 kV6 dc6 pm6 cd6 ct6 oc7 kV7 dc7 pm7 cd7 ct7 oc8 kV8 dc8 pm8 cd8 ct8 oc9 kV9 dc9 pm9 cd9 ct9 oc10 kV10 dc10 pm10 cd10 ct10 oc11 kV11 dc11 pm11 cd11 ct11 oc12 kV12 dc12 pm12 cd12 ct12 oc13 kV13 dc13 pm13 cd13 ct13 oc14 kV14 dc14 pm14 cd14 ct14 oc15 kV15 dc15 pm15 cd15 ct15 oc16 kV16 dc16 pm16 cd16 ct16 oc17 kV17 dc17 pm17 cd17 ct17 oc18 kV18 dc18 pm18 cd18 ct18 oc19 kV19 dc19 pm19 cd19 ct19 oc20 kV20 dc20 pm20 cd20 ct20 oc21 kV21 dc21 pm21 cd21 ct21 oc22 kV22 dc22 pm22 cd22 ct22 : Value}
    (a1 : PySem.W.nsIn K mainGlobals "exchanged" = some (some (.ref f1))) (l1 : K.lookup f1 = some ⟨oc1, od1, .func (PySem.W.fnOf "exchanged" "exchanged" (defArgs s_exchanged) (defBody s_exchanged) (defScope s_exchanged) .none kV1 dc1 pm1 an1 cd1 ct1), sl1⟩) (c1 : PySem.W.codeIn K cd1 "exchanged" = true) (k1 : PySem.W.keepIn K (.ref f1) = true)
    (a2 : PySem.W.nsIn K mainGlobals "swapped" = some (some (.ref f2))) (l2 : K.lookup f2 = some ⟨oc2, od2, .func (PySem.W.fnOf "swapped" "swapped" (defArgs s_swapped) (defBody s_swapped) (defScope s_swapped) .none kV2 dc2 pm2 an2 cd2 ct2), sl2⟩) (c2 : PySem.W.codeIn K cd2 "swapped" = true) (k2 : PySem.W.keepIn K (.ref f2) = true)
    (a3 : PySem.W.nsIn K mainGlobals "taken_once" = some (some (.ref f3))) (l3 : K.lookup f3 = some ⟨oc3, od3, .func (PySem.W.fnOf "taken_once" "taken_once" (defArgs s_taken_once) (defBody s_taken_once) (defScope s_taken_once) .none kV3 dc3 pm3 an3 cd3 ct3), sl3⟩) (c3 : PySem.W.codeIn K cd3 "taken_once" = true) (k3 : PySem.W.keepIn K (.ref f3) = true)
    (a4 : PySem.W.nsIn K mainGlobals "taken_less" = some (some (.ref f4))) (l4 : K.lookup f4 = some ⟨oc4, od4, .func (PySem.W.fnOf "taken_less" "taken_less" (defArgs s_taken_less) (defBody s_taken_less) (defScope s_taken_less) .none kV4 dc4 pm4 an4 cd4 ct4), sl4⟩) (c4 : PySem.W.codeIn K cd4 "taken_less" = true) (k4 : PySem.W.keepIn K (.ref f4) = true)
    (a5 : PySem.W.nsIn K mainGlobals "first_word" = some (some (.ref f5))) (l5 : K.lookup f5 = some ⟨oc5, od5, .func (PySem.W.fnOf "first_word" "first_word" (defArgs s_first_word) (defBody s_first_word) (defScope s_first_word) .none kV5 dc5 pm5 an5 cd5 ct5), sl5⟩) (c5 : PySem.W.codeIn K cd5 "first_word" = true) (k5 : PySem.W.keepIn K (.ref f5) = true)
    (a6 : PySem.W.nsIn K mainGlobals "once" = some (some (.ref f6))) (l6 : K.lookup f6 = some ⟨oc6, od6, .func (PySem.W.fnOf "once" "once" (defArgs s_once) (defBody s_once) (defScope s_once) .none kV6 dc6 pm6 an6 cd6 ct6), sl6⟩) (c6 : PySem.W.codeIn K cd6 "once" = true) (k6 : PySem.W.keepIn K (.ref f6) = true)
    (a7 : PySem.W.nsIn K mainGlobals "less" = some (some (.ref f7))) (l7 : K.lookup f7 = some ⟨oc7, od7, .func (PySem.W.fnOf "less" "less" (defArgs s_less) (defBody s_less) (defScope s_less) .none kV7 dc7 pm7 an7 cd7 ct7), sl7⟩) (c7 : PySem.W.codeIn K cd7 "less" = true) (k7 : PySem.W.keepIn K (.ref f7) = true)
    (a8 : PySem.W.nsIn K mainGlobals "_law_source" = some (some (.ref f8))) (l8 : K.lookup f8 = some ⟨oc8, od8, .func (PySem.W.fnOf "_law_source" "_law_source" (defArgs s__law_source) (defBody s__law_source) (defScope s__law_source) .none kV8 dc8 pm8 an8 cd8 ct8), sl8⟩) (c8 : PySem.W.codeIn K cd8 "_law_source" = true) (k8 : PySem.W.keepIn K (.ref f8) = true)
    (a9 : PySem.W.nsIn K mainGlobals "_law_pick" = some (some (.ref f9))) (l9 : K.lookup f9 = some ⟨oc9, od9, .func (PySem.W.fnOf "_law_pick" "_law_pick" (defArgs s__law_pick) (defBody s__law_pick) (defScope s__law_pick) .none kV9 dc9 pm9 an9 cd9 ct9), sl9⟩) (c9 : PySem.W.codeIn K cd9 "_law_pick" = true) (k9 : PySem.W.keepIn K (.ref f9) = true)
    (a10 : PySem.W.nsIn K mainGlobals "_law_of" = some (some (.ref f10))) (l10 : K.lookup f10 = some ⟨oc10, od10, .func (PySem.W.fnOf "_law_of" "_law_of" (defArgs s__law_of) (defBody s__law_of) (defScope s__law_of) .none kV10 dc10 pm10 an10 cd10 ct10), sl10⟩) (c10 : PySem.W.codeIn K cd10 "_law_of" = true) (k10 : PySem.W.keepIn K (.ref f10) = true)
    (a11 : PySem.W.nsIn K mainGlobals "_law_mixed" = some (some (.ref f11))) (l11 : K.lookup f11 = some ⟨oc11, od11, .func (PySem.W.fnOf "_law_mixed" "_law_mixed" (defArgs s__law_mixed) (defBody s__law_mixed) (defScope s__law_mixed) .none kV11 dc11 pm11 an11 cd11 ct11), sl11⟩) (c11 : PySem.W.codeIn K cd11 "_law_mixed" = true) (k11 : PySem.W.keepIn K (.ref f11) = true)
    (a12 : PySem.W.nsIn K mainGlobals "_law_row" = some (some (.ref f12))) (l12 : K.lookup f12 = some ⟨oc12, od12, .func (PySem.W.fnOf "_law_row" "_law_row" (defArgs s__law_row) (defBody s__law_row) (defScope s__law_row) .none kV12 dc12 pm12 an12 cd12 ct12), sl12⟩) (c12 : PySem.W.codeIn K cd12 "_law_row" = true) (k12 : PySem.W.keepIn K (.ref f12) = true)
    (a13 : PySem.W.nsIn K mainGlobals "_law_all_rows" = some (some (.ref f13))) (l13 : K.lookup f13 = some ⟨oc13, od13, .func (PySem.W.fnOf "_law_all_rows" "_law_all_rows" (defArgs s__law_all_rows) (defBody s__law_all_rows) (defScope s__law_all_rows) .none kV13 dc13 pm13 an13 cd13 ct13), sl13⟩) (c13 : PySem.W.codeIn K cd13 "_law_all_rows" = true) (k13 : PySem.W.keepIn K (.ref f13) = true)
    (a14 : PySem.W.nsIn K mainGlobals "_law_length" = some (some (.ref f14))) (l14 : K.lookup f14 = some ⟨oc14, od14, .func (PySem.W.fnOf "_law_length" "_law_length" (defArgs s__law_length) (defBody s__law_length) (defScope s__law_length) .none kV14 dc14 pm14 an14 cd14 ct14), sl14⟩) (c14 : PySem.W.codeIn K cd14 "_law_length" = true) (k14 : PySem.W.keepIn K (.ref f14) = true)
    (a15 : PySem.W.nsIn K mainGlobals "_law_is_below" = some (some (.ref f15))) (l15 : K.lookup f15 = some ⟨oc15, od15, .func (PySem.W.fnOf "_law_is_below" "_law_is_below" (defArgs s__law_is_below) (defBody s__law_is_below) (defScope s__law_is_below) .none kV15 dc15 pm15 an15 cd15 ct15), sl15⟩) (c15 : PySem.W.codeIn K cd15 "_law_is_below" = true) (k15 : PySem.W.keepIn K (.ref f15) = true)
    (a16 : PySem.W.nsIn K mainGlobals "_law_exchanged" = some (some (.ref f16))) (l16 : K.lookup f16 = some ⟨oc16, od16, .func (PySem.W.fnOf "_law_exchanged" "_law_exchanged" (defArgs s__law_exchanged) (defBody s__law_exchanged) (defScope s__law_exchanged) .none kV16 dc16 pm16 an16 cd16 ct16), sl16⟩) (c16 : PySem.W.codeIn K cd16 "_law_exchanged" = true) (k16 : PySem.W.keepIn K (.ref f16) = true)
    (a17 : PySem.W.nsIn K mainGlobals "_law_steps" = some (some (.ref f17))) (l17 : K.lookup f17 = some ⟨oc17, od17, .func (PySem.W.fnOf "_law_steps" "_law_steps" (defArgs s__law_steps) (defBody s__law_steps) (defScope s__law_steps) .none kV17 dc17 pm17 an17 cd17 ct17), sl17⟩) (c17 : PySem.W.codeIn K cd17 "_law_steps" = true) (k17 : PySem.W.keepIn K (.ref f17) = true)
    (a18 : PySem.W.nsIn K mainGlobals "_law_raised" = some (some (.ref f18))) (l18 : K.lookup f18 = some ⟨oc18, od18, .func (PySem.W.fnOf "_law_raised" "_law_raised" (defArgs s__law_raised) (defBody s__law_raised) (defScope s__law_raised) .none kV18 dc18 pm18 an18 cd18 ct18), sl18⟩) (c18 : PySem.W.codeIn K cd18 "_law_raised" = true) (k18 : PySem.W.keepIn K (.ref f18) = true)
    (a19 : PySem.W.nsIn K mainGlobals "_law_behind" = some (some (.ref f19))) (l19 : K.lookup f19 = some ⟨oc19, od19, .func (PySem.W.fnOf "_law_behind" "_law_behind" (defArgs s__law_behind) (defBody s__law_behind) (defScope s__law_behind) .none kV19 dc19 pm19 an19 cd19 ct19), sl19⟩) (c19 : PySem.W.codeIn K cd19 "_law_behind" = true) (k19 : PySem.W.keepIn K (.ref f19) = true)
    (a20 : PySem.W.nsIn K mainGlobals "_law_rows_below" = some (some (.ref f20))) (l20 : K.lookup f20 = some ⟨oc20, od20, .func (PySem.W.fnOf "_law_rows_below" "_law_rows_below" (defArgs s__law_rows_below) (defBody s__law_rows_below) (defScope s__law_rows_below) .none kV20 dc20 pm20 an20 cd20 ct20), sl20⟩) (c20 : PySem.W.codeIn K cd20 "_law_rows_below" = true) (k20 : PySem.W.keepIn K (.ref f20) = true)
    (a21 : PySem.W.nsIn K mainGlobals "_law_other_way" = some (some (.ref f21))) (l21 : K.lookup f21 = some ⟨oc21, od21, .func (PySem.W.fnOf "_law_other_way" "_law_other_way" (defArgs s__law_other_way) (defBody s__law_other_way) (defScope s__law_other_way) .none kV21 dc21 pm21 an21 cd21 ct21), sl21⟩) (c21 : PySem.W.codeIn K cd21 "_law_other_way" = true) (k21 : PySem.W.keepIn K (.ref f21) = true)
    (a22 : PySem.W.nsIn K mainGlobals "law" = some (some (.ref f22))) (l22 : K.lookup f22 = some ⟨oc22, od22, .func (PySem.W.fnOf "law" "law" (defArgs s_law) (defBody s_law) (defScope s_law) .none kV22 dc22 pm22 an22 cd22 ct22), sl22⟩) (c22 : PySem.W.codeIn K cd22 "law" = true) (k22 : PySem.W.keepIn K (.ref f22) = true)
    (z_list : PySem.W.nsIn K mainGlobals "list" = some none)
    (z_tuple : PySem.W.nsIn K mainGlobals "tuple" = some none)
    (z_sorted : PySem.W.nsIn K mainGlobals "sorted" = some none)
    (z_len : PySem.W.nsIn K mainGlobals "len" = some none)
    (z_range : PySem.W.nsIn K mainGlobals "range" = some none)
    (z_int : PySem.W.nsIn K mainGlobals "int" = some none)
    (z_abs : PySem.W.nsIn K mainGlobals "abs" = some none)
    (z_max : PySem.W.nsIn K mainGlobals "max" = some none)
    (z_sum : PySem.W.nsIn K mainGlobals "sum" = some none)
    (z_zip : PySem.W.nsIn K mainGlobals "zip" = some none)
    : ∃ fd : FuncData, (∀ (s : Shared) (v : Value), BindsTo s fd ⟨[v], []⟩ [("script", v)]) ∧ ∀ base : Heap, K.In base → base.Ns mainGlobals mg → FnOk l.prog w K mg base CX0 5 fa fd ["script"] (spLaw K) := by
  have e := hfa.symm.trans (PySem.W.mg_of X G a22)
  cases e
  have b_list : mg "list" = none := PySem.W.mg_none_of X G z_list
  have b_tuple : mg "tuple" = none := PySem.W.mg_none_of X G z_tuple
  have b_sorted : mg "sorted" = none := PySem.W.mg_none_of X G z_sorted
  have b_len : mg "len" = none := PySem.W.mg_none_of X G z_len
  have b_range : mg "range" = none := PySem.W.mg_none_of X G z_range
  have b_int : mg "int" = none := PySem.W.mg_none_of X G z_int
  have b_abs : mg "abs" = none := PySem.W.mg_none_of X G z_abs
  have b_max : mg "max" = none := PySem.W.mg_none_of X G z_max
  have b_sum : mg "sum" = none := PySem.W.mg_none_of X G z_sum
  have b_zip : mg "zip" = none := PySem.W.mg_none_of X G z_zip
  have F1 := fun_mk (st := s_exchanged) l1 c1 k1
  have F2 := fun_mk (st := s_swapped) l2 c2 k2
  have F3 := fun_mk (st := s_taken_once) l3 c3 k3
  have F4 := fun_mk (st := s_taken_less) l4 c4 k4
  have F5 := fun_mk (st := s_first_word) l5 c5 k5
  have F6 := fun_mk (st := s_once) l6 c6 k6
  have F7 := fun_mk (st := s_less) l7 c7 k7
  have F8 := fun_mk (st := s__law_source) l8 c8 k8
  have F9 := fun_mk (st := s__law_pick) l9 c9 k9
  have F10 := fun_mk (st := s__law_of) l10 c10 k10
  have F11 := fun_mk (st := s__law_mixed) l11 c11 k11
  have F12 := fun_mk (st := s__law_row) l12 c12 k12
  have F13 := fun_mk (st := s__law_all_rows) l13 c13 k13
  have F14 := fun_mk (st := s__law_length) l14 c14 k14
  have F15 := fun_mk (st := s__law_is_below) l15 c15 k15
  have F16 := fun_mk (st := s__law_exchanged) l16 c16 k16
  have F17 := fun_mk (st := s__law_steps) l17 c17 k17
  have F18 := fun_mk (st := s__law_raised) l18 c18 k18
  have F19 := fun_mk (st := s__law_behind) l19 c19 k19
  have F20 := fun_mk (st := s__law_rows_below) l20 c20 k20
  have F21 := fun_mk (st := s__law_other_way) l21 c21 k21
  have F22 := fun_mk (st := s_law) l22 c22 k22
  refine ⟨PySem.W.fnOf "law" "law" (defArgs s_law) (defBody s_law) (defScope s_law) .none kV22 dc22 pm22 an22 cd22 ct22, fun s v => .of_eq rfl, fun base _ _ => ?_⟩
  have C_exchanged : Cal l.prog w K mg base 1 "exchanged" ["row", "i", "j"] (spP K 3 m_exchanged) := ⟨f1, _, ok_exchanged F1 b_list b_tuple, F1.binds (ps := ["row", "i", "j"]) fun _ _ _ _ _ _ us hl => match us, hl with | [_, _, _], _ => rfl, PySem.W.mg_of X G a1, k1⟩
  have C_first_word : Cal l.prog w K mg base 1 "first_word" ["row"] (spP K 1 m_first_word) := ⟨f5, _, ok_first_word F5 b_list b_sorted b_len b_range b_tuple, F5.binds (ps := ["row"]) fun _ _ _ _ _ _ us hl => match us, hl with | [_], _ => rfl, PySem.W.mg_of X G a5, k5⟩
  have C_law_source : Cal l.prog w K mg base 1 "_law_source" ["script"] (spMk K mkSrc) := ⟨f8, _, ok__law_source F8 b_int b_abs, F8.binds (ps := ["script"]) fun _ _ _ _ _ _ us hl => match us, hl with | [_], _ => rfl, PySem.W.mg_of X G a8, k8⟩
  have C_law_pick : Cal l.prog w K mg base 1 "_law_pick" ["source", "many"] (spY K 1 pickM) := ⟨f9, _, ok__law_pick F9 b_len b_max b_int, F9.binds (ps := ["source", "many"]) fun _ _ _ _ _ _ us hl => match us, hl with | [_, _], _ => rfl, PySem.W.mg_of X G a9, k9⟩
  have C_law_all_rows : Cal l.prog w K mg base 1 "_law_all_rows" ["n"] (spP K 1 m_law_all_rows) := ⟨f13, _, ok__law_all_rows F13 b_range, F13.binds (ps := ["n"]) fun _ _ _ _ _ _ us hl => match us, hl with | [_], _ => rfl, PySem.W.mg_of X G a13, k13⟩
  have C_law_length : Cal l.prog w K mg base 1 "_law_length" ["row"] (spP K 1 m_law_length) := ⟨f14, _, ok__law_length F14 b_len b_range b_sum, F14.binds (ps := ["row"]) fun _ _ _ _ _ _ us hl => match us, hl with | [_], _ => rfl, PySem.W.mg_of X G a14, k14⟩
  have C_law_is_below : Cal l.prog w K mg base 1 "_law_is_below" ["u", "w"] (spP K 2 m_law_is_below) := ⟨f15, _, ok__law_is_below F15 b_len b_range b_sorted b_zip, F15.binds (ps := ["u", "w"]) fun _ _ _ _ _ _ us hl => match us, hl with | [_, _], _ => rfl, PySem.W.mg_of X G a15, k15⟩
  have C_law_exchanged : Cal l.prog w K mg base 1 "_law_exchanged" ["row", "i", "j"] (spP K 3 m_law_exchanged) := ⟨f16, _, ok__law_exchanged F16 b_list b_tuple, F16.binds (ps := ["row", "i", "j"]) fun _ _ _ _ _ _ us hl => match us, hl with | [_, _, _], _ => rfl, PySem.W.mg_of X G a16, k16⟩
  have C_law_behind : Cal l.prog w K mg base 1 "_law_behind" ["one", "other"] (spP K 2 m_law_behind) := ⟨f19, _, ok__law_behind F19 b_tuple, F19.binds (ps := ["one", "other"]) fun _ _ _ _ _ _ us hl => match us, hl with | [_, _], _ => rfl, PySem.W.mg_of X G a19, k19⟩
  have C_law_other_way : Cal l.prog w K mg base 1 "_law_other_way" ["row"] (spP K 1 m_law_other_way) := ⟨f21, _, ok__law_other_way F21 b_len b_range b_tuple, F21.binds (ps := ["row"]) fun _ _ _ _ _ _ us hl => match us, hl with | [_], _ => rfl, PySem.W.mg_of X G a21, k21⟩
  have C_swapped : Cal l.prog w K mg base 2 "swapped" ["row", "k"] (spP K 2 m_swapped) := ⟨f2, _, ok_swapped F2 C_exchanged, F2.binds (ps := ["row", "k"]) fun _ _ _ _ _ _ us hl => match us, hl with | [_, _], _ => rfl, PySem.W.mg_of X G a2, k2⟩
  have C_law_of : Cal l.prog w K mg base 2 "_law_of" ["source", "some"] (spY K 1 m_law_of) := ⟨f10, _, ok__law_of F10 C_law_pick b_len, F10.binds (ps := ["source", "some"]) fun _ _ _ _ _ _ us hl => match us, hl with | [_, _], _ => rfl, PySem.W.mg_of X G a10, k10⟩
  have C_law_mixed : Cal l.prog w K mg base 2 "_law_mixed" ["source", "things"] (spY K 1 mixedM) := ⟨f11, _, ok__law_mixed F11 C_law_pick b_list b_len b_range, F11.binds (ps := ["source", "things"]) fun _ _ _ _ _ _ us hl => match us, hl with | [_, _], _ => rfl, PySem.W.mg_of X G a11, k11⟩
  have C_law_steps : Cal l.prog w K mg base 2 "_law_steps" ["u"] (spP K 1 m_law_steps) := ⟨f17, _, ok__law_steps F17 C_law_exchanged b_len b_range, F17.binds (ps := ["u"]) fun _ _ _ _ _ _ us hl => match us, hl with | [_], _ => rfl, PySem.W.mg_of X G a17, k17⟩
  have C_law_rows_below : Cal l.prog w K mg base 2 "_law_rows_below" ["w"] (spP K 1 m_law_rows_below) := ⟨f20, _, ok__law_rows_below F20 C_law_all_rows C_law_is_below b_len, F20.binds (ps := ["w"]) fun _ _ _ _ _ _ us hl => match us, hl with | [_], _ => rfl, PySem.W.mg_of X G a20, k20⟩
  have C_taken_once : Cal l.prog w K mg base 3 "taken_once" ["row", "word"] (spP K 2 m_taken_once) := ⟨f3, _, ok_taken_once F3 C_swapped, F3.binds (ps := ["row", "word"]) fun _ _ _ _ _ _ us hl => match us, hl with | [_, _], _ => rfl, PySem.W.mg_of X G a3, k3⟩
  have C_taken_less : Cal l.prog w K mg base 3 "taken_less" ["row", "word"] (spP K 2 m_taken_less) := ⟨f4, _, ok_taken_less F4 C_swapped, F4.binds (ps := ["row", "word"]) fun _ _ _ _ _ _ us hl => match us, hl with | [_, _], _ => rfl, PySem.W.mg_of X G a4, k4⟩
  have C_law_row : Cal l.prog w K mg base 3 "_law_row" ["source", "n"] (spY K 1 m_law_row) := ⟨f12, _, ok__law_row F12 C_law_mixed b_range b_list b_tuple, F12.binds (ps := ["source", "n"]) fun _ _ _ _ _ _ us hl => match us, hl with | [_, _], _ => rfl, PySem.W.mg_of X G a12, k12⟩
  have C_law_raised : Cal l.prog w K mg base 3 "_law_raised" ["source", "u", "most"] (spY K 2 m_law_raised) := ⟨f18, _, ok__law_raised F18 C_law_pick C_law_steps C_law_of b_range, F18.binds (ps := ["source", "u", "most"]) fun _ _ _ _ _ _ us hl => match us, hl with | [_, _, _], _ => rfl, PySem.W.mg_of X G a18, k18⟩
  have C_once : Cal l.prog w K mg base 4 "once" ["one", "other"] (spP K 2 m_once) := ⟨f6, _, ok_once F6 C_taken_once C_first_word, F6.binds (ps := ["one", "other"]) fun _ _ _ _ _ _ us hl => match us, hl with | [_, _], _ => rfl, PySem.W.mg_of X G a6, k6⟩
  have C_less : Cal l.prog w K mg base 4 "less" ["one", "other"] (spP K 2 m_less) := ⟨f7, _, ok_less F7 C_taken_less C_first_word, F7.binds (ps := ["one", "other"]) fun _ _ _ _ _ _ us hl => match us, hl with | [_, _], _ => rfl, PySem.W.mg_of X G a7, k7⟩
  exact ok_law F22 C_law_source C_law_pick C_law_row C_law_rows_below C_law_behind C_once C_law_is_below C_law_other_way C_less C_law_length C_law_raised b_range b_max b_tuple hlaw
theorem walk {l : PySem.W.OpenLaw} {q : Program} {loose : List Str} {XP : (Str → Option Value) → Heap → Prop} {YP : World → Heap → Prop} {d : DefRec} {K : Params → PySem.W.Frag} (hn : l.most = some 63) (hdf : d.params.defaults = [])
    (hY : ∀ (w : World) (h : Heap), YP w h → (K w.params).In h)
    (F : ∀ (w : World) (mg : Str → Option Value) (fa : Addr) (h : Heap), (K w.params).In h → h.Ns mainGlobals mg → mg d.name = some (.ref fa) →
      ∃ fd : FuncData, (∀ (s : Shared) (u : Value), BindsTo s fd ⟨[u], []⟩ [("script", u)]) ∧ ∀ base : Heap, (K w.params).In base → base.Ns mainGlobals mg → FnOk l.prog w (K w.params) mg base CX0 5 fa fd ["script"] (spLaw (K w.params))) :
    PySem.W.WalkO q loose XP YP l.row.toRowW d [] (fun f vs => PySem.call f vs) :=
  L2.walk_of (n := 63) (k := 5) (x := "script") (CX := fun _ => CX0) (sp := fun w => spLaw (K w.params)) hn (by decide) hdf ⟨rfl, by decide, by decide⟩ hY F (fun _ _ a ns hl _ hS => ⟨a, ns, rfl, hS, hl, fun _ => rfl⟩) fun _ _ _ _ _ z => z
end
end W81

set_option Elab.async false
set_option linter.all false
set_option maxRecDepth 100000
set_option maxHeartbeats 4000000
/-! DM0: what the mirrors answer: control, encoders, operations. -/
namespace DL
open PySem L2

/-! ### control -/
theorem seq_nx {a b : Z} {ρ ρ1 : Rho} {s s1 : Src} (h : a ρ s = some (.nx ρ1, s1)) : seqS a b ρ s = b ρ1 s1 := by
  unfold seqS
  rw [h]
theorem seq_rt {a b : Z} {ρ : Rho} {s s1 : Src} {d : D} (h : a ρ s = some (.rt d, s1)) : seqS a b ρ s = some (.rt d, s1) := by
  unfold seqS
  rw [h]
theorem runD_rt {G : Z} {k : Nat} {ds : List D} {d : D} {s : Src} (h : G (iniR ds k) dummy = some (.rt d, s)) : runD G k ds = some d := by
  unfold runD
  rw [h]
  rfl
theorem runY_rt {G : Z} {k : Nat} {ds : List D} {d : D} {s s' : Src} (h : G (.sr :: iniR ds k) s = some (.rt d, s')) : runY G k ds s = some (d, s') := by
  unfold runY
  rw [h]
  rfl
theorem asg_ev {i : Nat} {g : Y} {ρ : Rho} {s s1 : Src} {d : D} (h : g ρ s = some (d, s1)) : asgS i (fzU g) ρ s = some (.nx (ρ.set i (.fz d)), s1) := by
  unfold asgS fzU
  rw [h]
  rfl
theorem asgo_ev {i : Nat} {g : Yl} {ρ : Rho} {s s1 : Src} {d : List D} (h : g ρ s = some (d, s1)) : asgS i (owU g) ρ s = some (.nx (ρ.set i (.ow d)), s1) := by
  unfold asgS owU
  rw [h]
  rfl
theorem ret_ev {g : Y} {ρ : Rho} {s s1 : Src} {d : D} (h : g ρ s = some (d, s1)) : retS g ρ s = some (.rt d, s1) := by
  unfold retS
  rw [h]
  rfl
theorem if_t {c : Yb} {a b : Z} {ρ : Rho} {s s1 : Src} (h : c ρ s = some (true, s1)) : ifS c a b ρ s = a ρ s1 := by
  unfold ifS
  rw [h]
  rfl
theorem if_f {c : Yb} {a b : Z} {ρ : Rho} {s s1 : Src} (h : c ρ s = some (false, s1)) : ifS c a b ρ s = b ρ s1 := by
  unfold ifS
  rw [h]
  rfl
theorem if_ev {c : Yb} {a b : Z} {ρ : Rho} {s s1 : Src} {x : Bool} (h : c ρ s = some (x, s1)) : ifS c a b ρ s = if x = true then a ρ s1 else b ρ s1 := by
  unfold ifS
  rw [h]
  rfl
theorem y2_ev {f : D → D → Option D} {a b : Y} {ρ : Rho} {s s1 s2 : Src} {x y d : D} (h1 : a ρ s = some (x, s1)) (h2 : b ρ s1 = some (y, s2)) (h3 : f x y = some d) : y2 f a b ρ s = some (d, s2) := by
  unfold y2
  rw [h1]
  dsimp only [bO]
  rw [h2]
  dsimp only [bO]
  rw [h3]
  rfl
theorem yC_ev {f : List D → Option D} {a : Yl} {ρ : Rho} {s s1 : Src} {xs : List D} {d : D} (h1 : a ρ s = some (xs, s1)) (h3 : f xs = some d) : yC f a ρ s = some (d, s1) := by
  unfold yC
  rw [h1]
  dsimp only [bO]
  rw [h3]
  rfl
theorem ynC_ev {f : List D → Option (List D)} {a : Yl} {ρ : Rho} {s s1 : Src} {xs d : List D} (h1 : a ρ s = some (xs, s1)) (h3 : f xs = some d) : ynC f a ρ s = some (d, s1) := by
  unfold ynC
  rw [h1]
  dsimp only [bO]
  rw [h3]
  rfl
theorem ac_ev {a : Y} {r : Yl} {ρ : Rho} {s s1 s2 : Src} {x : D} {xs : List D} (h1 : a ρ s = some (x, s1)) (h2 : r ρ s1 = some (xs, s2)) : aCons a r ρ s = some (x :: xs, s2) := by
  unfold aCons
  rw [h1]
  dsimp only [bO]
  rw [h2]
theorem an_ev {ρ : Rho} {s : Src} : aNil ρ s = some ([], s) := rfl
theorem call_ev {n : Nat} {m : List D → Option D} {g : Yl} {ρ : Rho} {s s1 : Src} {xs : List D} {d : D} (h1 : g ρ s = some (xs, s1)) (hn : xs.length = n) (h : m xs = some d) : callY n m g ρ s = some (d, s1) := by
  unfold callY
  rw [h1]
  simp only [bO, hn, if_true, h, mO]
theorem fr_ev {g : Yl} {ρ : Rho} {s s1 : Src} {ds : List D} (h : g ρ s = some (ds, s1)) : frY g ρ s = some (.list ds, s1) := by
  unfold frY
  rw [h]
  rfl
theorem tup_ev {g : Yl} {ρ : Rho} {s s1 : Src} {ds : List D} (h : g ρ s = some (ds, s1)) (hl : ds.length ≤ lim) : tupY g ρ s = some (.tuple ds, s1) := by
  unfold tupY
  rw [h]
  exact if_pos hl
theorem lst_ev {g : Yl} {ρ : Rho} {s s1 : Src} {ds : List D} (h : g ρ s = some (ds, s1)) (hl : ds.length ≤ lim) : lstY g ρ s = some (ds, s1) := by
  unfold lstY
  rw [h]
  exact if_pos hl
theorem bT_ev {g : Y} {ρ : Rho} {s s1 : Src} {b : Bool} (h : g ρ s = some (.bool b, s1)) : bT g ρ s = some (b, s1) := by
  unfold bT
  rw [h]
  rfl
theorem notT_ev {g : Yb} {ρ : Rho} {s s1 : Src} {b : Bool} (h : g ρ s = some (b, s1)) : notT g ρ s = some (!b, s1) := by
  unfold notT
  rw [h]
  rfl
theorem or_ev {g h : Yb} {ρ : Rho} {s s1 s2 : Src} {b c : Bool} (h1 : g ρ s = some (b, s1)) (h2 : b = false → h ρ s1 = some (c, s2)) (h3 : b = true → s1 = s2) : orT g h ρ s = some (b || c, s2) := by
  unfold orT
  rw [h1]
  cases b with
  | true => rw [h3 rfl]; rfl
  | false => exact h2 rfl
theorem and_ev {g h : Yb} {ρ : Rho} {s s1 s2 : Src} {b c : Bool} (h1 : g ρ s = some (b, s1)) (h2 : b = true → h ρ s1 = some (c, s2)) (h3 : b = false → s1 = s2) : andT g h ρ s = some (b && c, s2) := by
  unfold andT
  rw [h1]
  cases b with
  | false => rw [h3 rfl]; rfl
  | true => exact h2 rfl
theorem ifY_ev {t : Yb} {a b : Y} {ρ : Rho} {s s1 : Src} {x : Bool} (h : t ρ s = some (x, s1)) : ifY t a b ρ s = if x = true then a ρ s1 else b ρ s1 := by
  unfold ifY
  rw [h]
  rfl
theorem vw_ev {g : Y} {ρ : Rho} {s s1 : Src} {d : D} (h : g (ρ.map viewS) s = some (d, s1)) (hd : scalD d = true) : vwY g ρ s = some (d, s1) := by
  unfold vwY
  rw [h]
  exact if_pos hd
theorem par3_ev {i j l : Nat} {a b c : Y} {ρ : Rho} {s s1 s2 s3 : Src} {x y z : D} (h1 : a ρ s = some (x, s1)) (h2 : b ρ s1 = some (y, s2)) (h3 : c ρ s2 = some (z, s3)) : par3S i j l (fzU a) (fzU b) (fzU c) ρ s = some (.nx (((ρ.set i (.fz x)).set j (.fz y)).set l (.fz z)), s3) := by
  unfold par3S fzU
  rw [h1]
  dsimp only [bO]
  rw [h2]
  dsimp only [bO]
  rw [h3]
theorem par_ev {i j : Nat} {a b : Y} {ρ : Rho} {s s1 s2 : Src} {x y : D} (h1 : a ρ s = some (x, s1)) (h2 : b ρ s1 = some (y, s2)) : parS i j (fzU a) (fzU b) ρ s = some (.nx ((ρ.set i (.fz x)).set j (.fz y)), s2) := by
  unfold parS fzU
  rw [h1]
  dsimp only [bO]
  rw [h2]

/-! ### loops -/
theorem forGo_rel {α : Type} {bind : α → Rho → Option Rho} {G : Z} {xs : List α} (I : Nat → Rho → Src → Prop) (Post : Fl → Src → Prop)
    (h : ∀ i x ρ s, xs[i]? = some x → I i ρ s → ∃ ρ1 fl s1, bind x ρ = some ρ1 ∧ G ρ1 s = some (fl, s1) ∧ match fl with
      | .nx ρ2 => I (i + 1) ρ2 s1
      | .ct ρ2 => I (i + 1) ρ2 s1
      | .bk ρ2 => Post (.nx ρ2) s1
      | .rt d => Post (.rt d) s1)
    (hd : ∀ ρ s, I xs.length ρ s → Post (.nx ρ) s) {ρ : Rho} {s : Src} (h0 : I 0 ρ s) : ∃ fl s', forGo bind G xs ρ s = some (fl, s') ∧ Post fl s' := by
  have gen : ∀ (n k : Nat) (ρ : Rho) (s : Src), k + n = xs.length → I k ρ s → ∃ fl s', forGo bind G (xs.drop k) ρ s = some (fl, s') ∧ Post fl s' := by
    intro n
    induction n with
    | zero =>
      intro k ρ s hk hi
      rw [List.drop_eq_nil_of_le (by omega)]
      exact ⟨_, _, rfl, hd ρ s (by rw [← hk]; exact hi)⟩
    | succ n ih =>
      intro k ρ s hk hi
      have hlt : k < xs.length := by omega
      rw [List.drop_eq_getElem_cons hlt]
      obtain ⟨ρ1, fl, s1, e1, e2, e3⟩ := h k xs[k] ρ s (List.getElem?_eq_getElem hlt) hi
      unfold forGo
      rw [e1]
      dsimp only [mO]
      rw [e2]
      dsimp only [bO]
      cases fl with
      | nx ρ2 => exact ih (k + 1) ρ2 s1 (by omega) e3
      | ct ρ2 => exact ih (k + 1) ρ2 s1 (by omega) e3
      | bk ρ2 => exact ⟨_, _, rfl, e3⟩
      | rt d => exact ⟨_, _, rfl, e3⟩
  exact gen xs.length 0 ρ s (by omega) h0
/-- a loop that carries b and never leaves -/
theorem forGo_fold {α β : Type} {bind : α → Rho → Option Rho} {G : Z} (R : β → Rho → Prop) (step : β → α → β) {s : Src} : ∀ (xs : List α) (b : β) (ρ : Rho),
    (∀ b x ρ, x ∈ xs → R b ρ → ∃ ρ1 ρ2, bind x ρ = some ρ1 ∧ G ρ1 s = some (.nx ρ2, s) ∧ R (step b x) ρ2) → R b ρ → ∃ ρ', forGo bind G xs ρ s = some (.nx ρ', s) ∧ R (xs.foldl step b) ρ'
  | [], b, ρ, _, h0 => ⟨ρ, rfl, h0⟩
  | x :: xs, b, ρ, h, h0 => by
    obtain ⟨ρ1, ρ2, e1, e2, e3⟩ := h b x ρ List.mem_cons_self h0
    obtain ⟨ρ', e4, e5⟩ := forGo_fold R step xs (step b x) ρ2 (fun b y ρ hy => h b y ρ (List.mem_cons_of_mem _ hy)) e3
    refine ⟨ρ', ?_, e5⟩
    unfold forGo
    rw [e1]
    dsimp only [mO]
    rw [e2]
    exact e4
/-- a loop that leaves with d at the first item that is not ok -/
theorem forGo_all {α : Type} {bind : α → Rho → Option Rho} {G : Z} (R : Rho → Prop) (ok : α → Bool) (d : D) {s : Src} : ∀ (xs : List α) (ρ : Rho),
    (∀ x ρ, x ∈ xs → R ρ → ∃ ρ1, bind x ρ = some ρ1 ∧ (ok x = true → ∃ ρ2, G ρ1 s = some (.nx ρ2, s) ∧ R ρ2) ∧ (ok x = false → G ρ1 s = some (.rt d, s))) → R ρ →
      if xs.all ok = true then ∃ ρ', forGo bind G xs ρ s = some (.nx ρ', s) ∧ R ρ' else forGo bind G xs ρ s = some (.rt d, s)
  | [], ρ, _, h0 => by
    rw [List.all_nil, if_pos rfl]
    exact ⟨ρ, rfl, h0⟩
  | x :: xs, ρ, h, h0 => by
    obtain ⟨ρ1, e1, e2, e3⟩ := h x ρ List.mem_cons_self h0
    unfold forGo
    rw [e1]
    dsimp only [mO]
    cases hx : ok x with
    | false =>
      rw [e3 hx, List.all_cons, hx, Bool.false_and, if_neg Bool.false_ne_true]
      rfl
    | true =>
      obtain ⟨ρ2, e4, e5⟩ := e2 hx
      rw [e4, List.all_cons, hx, Bool.true_and]
      exact forGo_all R ok d xs ρ2 (fun y ρ hy => h y ρ (List.mem_cons_of_mem _ hy)) e5
theorem for_ev {α : Type} {fi : Rho → Src → Option (List α × Src)} {bind : α → Rho → Option Rho} {G : Z} {ρ : Rho} {s s1 : Src} {xs : List α} (h : fi ρ s = some (xs, s1)) : forS fi bind G ρ s = forGo bind G xs ρ s1 := by
  unfold forS
  rw [h]
  rfl
/-- a comprehension that draws nothing -/
theorem lcGo_ev {α : Type} {bind : α → Rho → Option Rho} {t : Yb} {e : Y} {ρ : Rho} {s : Src} (p : α → Bool) (f : α → D) : ∀ (xs : List α) (acc : List D),
    (∀ x ∈ xs, ∃ ρ1, bind x ρ = some ρ1 ∧ t ρ1 s = some (p x, s) ∧ (p x = true → e ρ1 s = some (f x, s))) → acc.length + xs.length ≤ lim → lcGo bind t e xs acc ρ s = some (acc ++ (xs.filter p).map f, s)
  | [], acc, _, _ => by
    unfold lcGo
    rw [List.filter_nil, List.map_nil, List.append_nil]
  | x :: xs, acc, h, hl => by
    obtain ⟨ρ1, e1, e2, e3⟩ := h x List.mem_cons_self
    rw [List.length_cons] at hl
    unfold lcGo
    rw [e1]
    dsimp only [mO]
    rw [e2]
    dsimp only [bO]
    cases hx : p x with
    | false =>
      rw [if_neg Bool.false_ne_true, lcGo_ev p f xs acc (fun y hy => h y (List.mem_cons_of_mem _ hy)) (by omega), List.filter_cons, hx, if_neg Bool.false_ne_true]
    | true =>
      rw [if_pos rfl, e3 hx]
      dsimp only
      rw [if_pos (by omega), lcGo_ev p f xs (acc ++ [f x]) (fun y hy => h y (List.mem_cons_of_mem _ hy)) (by rw [List.length_append, List.length_singleton]; omega), List.filter_cons, hx, if_pos rfl, List.map_cons, List.append_assoc]
      rfl
theorem lc_ev {α : Type} {fi : Rho → Src → Option (List α × Src)} {bind : α → Rho → Option Rho} {t : Yb} {e : Y} {vs : List Nat} {ρ : Rho} {s s1 : Src} {xs : List α} (p : α → Bool) (f : α → D) (h0 : fi ρ s = some (xs, s1))
    (h : ∀ x ∈ xs, ∃ ρ1, bind x (wipeR ρ vs) = some ρ1 ∧ t ρ1 s1 = some (p x, s1) ∧ (p x = true → e ρ1 s1 = some (f x, s1))) (hl : xs.length ≤ lim) : lcY fi bind t e vs ρ s = some ((xs.filter p).map f, s1) := by
  unfold lcY
  rw [h0]
  dsimp only [bO]
  rw [lcGo_ev p f xs [] h (by rw [List.length_nil]; omega)]
  rfl
/-- a while loop with a bound -/
theorem whGo_rel {c : Yb} {G : Z} (I : Nat → Rho → Src → Prop) (Post : Fl → Src → Prop)
    (h : ∀ n ρ s, I n ρ s → (∃ s1, c ρ s = some (false, s1) ∧ Post (.nx ρ) s1) ∨ ∃ s1, c ρ s = some (true, s1) ∧ ∃ fl s2, G ρ s1 = some (fl, s2) ∧ match fl with
      | .nx ρ2 => ∃ m, m < n ∧ I m ρ2 s2
      | .ct ρ2 => ∃ m, m < n ∧ I m ρ2 s2
      | .bk ρ2 => Post (.nx ρ2) s2
      | .rt d => Post (.rt d) s2) : ∀ (n N : Nat) (ρ : Rho) (s : Src), n < N → I n ρ s → ∃ fl s', whGo c G N ρ s = some (fl, s') ∧ Post fl s' := by
  intro n
  induction n using Nat.strongRecOn with
  | _ n ih =>
    intro N ρ s hN hi
    cases N with
    | zero => omega
    | succ N =>
      unfold whGo
      rcases h n ρ s hi with ⟨s1, e1, e2⟩ | ⟨s1, e1, fl, s2, e2, e3⟩
      · rw [e1]
        exact ⟨_, _, rfl, e2⟩
      · rw [e1]
        dsimp only [bO]
        rw [if_pos rfl, e2]
        cases fl with
        | nx ρ2 =>
          obtain ⟨m, h1, h2⟩ := e3
          exact ih m h1 N ρ2 s2 (by omega) h2
        | ct ρ2 =>
          obtain ⟨m, h1, h2⟩ := e3
          exact ih m h1 N ρ2 s2 (by omega) h2
        | bk ρ2 => exact ⟨_, _, rfl, e3⟩
        | rt d => exact ⟨_, _, rfl, e3⟩

/-! ### encoders -/
structure En (α : Type) where
  f : α → D
  dp : Nat
  eqv : ∀ a b, PyData.eqv (f a) (f b) = true ↔ a = b
  can : ∀ a, (f a).canLay0 = true
  hdp : ∀ a, (f a).depth ≤ dp
namespace En
def int : En Int := ⟨.int, 0, fun a b => by simp [PyData.eqv], fun _ => rfl, fun _ => Nat.le_refl _⟩
def nat : En Nat := ⟨fun n => .int n, 0, fun a b => by simp [PyData.eqv]; omega, fun _ => rfl, fun _ => Nat.le_refl _⟩
def bool : En Bool := ⟨.bool, 0, fun a b => by simp [PyData.eqv], fun _ => rfl, fun _ => Nat.le_refl _⟩
theorem eqvAll {α : Type} (e : En α) : ∀ xs ys : List α, PyData.eqvAll (xs.map e.f) (ys.map e.f) = true ↔ xs = ys
  | [], [] => by simp [PyData.eqvAll]
  | [], _ :: _ => by simp [PyData.eqvAll]
  | _ :: _, [] => by simp [PyData.eqvAll]
  | x :: xs, y :: ys => by
    rw [List.map_cons, List.map_cons, PyData.eqvAll, Bool.and_eq_true, e.eqv, eqvAll e xs ys, List.cons.injEq]
theorem canAll {α : Type} (e : En α) : ∀ xs : List α, PyData.canLayAll0 (xs.map e.f) = true
  | [] => rfl
  | x :: xs => by rw [List.map_cons, PyData.canLayAll0, e.can, canAll e xs]; rfl
theorem depAll {α : Type} (e : En α) : ∀ xs : List α, PyData.depthAll (xs.map e.f) ≤ e.dp
  | [] => Nat.zero_le _
  | x :: xs => by
    rw [List.map_cons, PyData.depthAll]
    exact Nat.max_le.mpr ⟨e.hdp x, depAll e xs⟩
def lst {α : Type} (e : En α) : En (List α) := ⟨fun xs => .list (xs.map e.f), e.dp + 1, fun a b => by rw [PyData.eqv]; exact e.eqvAll a b, fun a => by rw [PyData.canLay0]; exact e.canAll a, fun a => by rw [PyData.depth]; exact Nat.succ_le_succ (e.depAll a)⟩
def tup {α : Type} (e : En α) : En (List α) := ⟨fun xs => .tuple (xs.map e.f), e.dp + 1, fun a b => by rw [PyData.eqv]; exact e.eqvAll a b, fun a => by rw [PyData.canLay0]; exact e.canAll a, fun a => by rw [PyData.depth]; exact Nat.succ_le_succ (e.depAll a)⟩
def pair {α β : Type} (e : En α) (g : En β) : En (α × β) := ⟨fun p => .tuple [e.f p.1, g.f p.2], max e.dp g.dp + 1, fun a b => by
    rw [PyData.eqv, PyData.eqvAll, PyData.eqvAll, PyData.eqvAll, Bool.and_true, Bool.and_eq_true, e.eqv, g.eqv, Prod.ext_iff], fun a => by
    rw [PyData.canLay0, PyData.canLayAll0, PyData.canLayAll0, PyData.canLayAll0, e.can, g.can]; rfl, fun a => by
    rw [PyData.depth, PyData.depthAll, PyData.depthAll, PyData.depthAll]
    have h1 := e.hdp a.1
    have h2 := g.hdp a.2
    omega⟩
variable {α : Type} (e : En α)
theorem shaped (h : e.dp ≤ 64) (a : α) : SeqAt.shaped (e.f a) = true := by
  unfold SeqAt.shaped
  rw [e.can, Bool.true_and, decide_eq_true_eq]
  exact Nat.le_trans (e.hdp a) h
theorem eqvD [DecidableEq α] (a b : α) : PyData.eqv (e.f a) (e.f b) = decide (a = b) := by
  rw [Bool.eq_iff_iff, e.eqv, decide_eq_true_eq]
theorem eqD [DecidableEq α] (h : e.dp ≤ 64) (a b : α) : DL.eqD (e.f a) (e.f b) = some (.bool (decide (a = b))) := by
  unfold DL.eqD
  rw [if_pos ⟨e.shaped h a, e.shaped h b⟩, e.eqvD]
theorem neD [DecidableEq α] (h : e.dp ≤ 64) (a b : α) : DL.neD (e.f a) (e.f b) = some (.bool (!decide (a = b))) := by
  unfold DL.neD
  rw [if_pos ⟨e.shaped h a, e.shaped h b⟩, e.eqvD]
theorem any [DecidableEq α] (xs : List α) (a : α) : ((xs.map e.f).any fun z => PyData.eqv z (e.f a)) = decide (a ∈ xs) := by
  rw [Bool.eq_iff_iff, List.any_eq_true, decide_eq_true_eq]
  constructor
  · rintro ⟨z, hz, h⟩
    obtain ⟨b, hb, rfl⟩ := List.mem_map.mp hz
    rw [e.eqv] at h
    rw [← h]; exact hb
  · intro h
    exact ⟨e.f a, List.mem_map.mpr ⟨a, h, rfl⟩, (e.eqv a a).mpr rfl⟩
theorem inL [DecidableEq α] (h : e.dp + 1 ≤ 64) (neg : Bool) (a : α) (xs : List α) : inD neg (e.f a) (e.lst.f xs) = some (.bool (if neg then !decide (a ∈ xs) else decide (a ∈ xs))) := by
  have h2 : SeqAt.shaped (.list (xs.map e.f)) = true := e.lst.shaped h xs
  show (if SeqAt.shaped (e.f a) = true ∧ SeqAt.shaped (.list (xs.map e.f)) = true then _ else _) = _
  rw [if_pos ⟨e.shaped (Nat.le_of_succ_le h) a, h2⟩, e.any]
theorem inT [DecidableEq α] (h : e.dp + 1 ≤ 64) (neg : Bool) (a : α) (xs : List α) : inD neg (e.f a) (e.tup.f xs) = some (.bool (if neg then !decide (a ∈ xs) else decide (a ∈ xs))) := by
  have h2 : SeqAt.shaped (.list (xs.map e.f)) = true := e.lst.shaped h xs
  show (if SeqAt.shaped (e.f a) = true ∧ SeqAt.shaped (.list (xs.map e.f)) = true then _ else _) = _
  rw [if_pos ⟨e.shaped (Nat.le_of_succ_le h) a, h2⟩, e.any]
theorem atL (xs : List α) (k : Nat) : atI (xs.map e.f) (k : Int) = xs[k]?.map e.f := by
  unfold atI ixN
  rw [if_pos (by omega), List.length_map]
  by_cases h : k < xs.length
  · rw [if_pos (by omega), Option.bind_some, Int.toNat_natCast, List.getElem?_map]
  · rw [if_neg (by omega), List.getElem?_eq_none (by omega)]
    rfl
theorem ixL (xs : List α) (k : Nat) (h : k < xs.length) : ixD (e.lst.f xs) (nat.f k) = some (e.f xs[k]) := by
  show atI (xs.map e.f) (k : Int) = _
  rw [e.atL, List.getElem?_eq_getElem h]
  rfl
theorem ixT (xs : List α) (k : Nat) (h : k < xs.length) : ixD (e.tup.f xs) (nat.f k) = some (e.f xs[k]) := by
  show atI (xs.map e.f) (k : Int) = _
  rw [e.atL, List.getElem?_eq_getElem h]
  rfl
theorem idxL [DecidableEq α] (xs : List α) (a : α) (n : Nat) : DL.idxL (e.f a) (xs.map e.f) n = if a ∈ xs then some (n + xs.idxOf a) else none := by
  induction xs generalizing n with
  | nil => rfl
  | cons x xs ih =>
    rw [List.map_cons]
    unfold DL.idxL
    rw [e.eqvD, List.idxOf_cons, ih]
    by_cases h : x = a
    · subst h; simp
    · have h' : ¬ a = x := fun z => h z.symm
      have hb : (x == a) = false := by simp [h]
      simp [h, h', hb, Nat.add_assoc, Nat.add_comm 1]
theorem lenL (xs : List α) : lenC [e.lst.f xs] = some (nat.f xs.length) := by
  show some (PyData.int ((xs.map e.f).length : Nat)) = _
  rw [List.length_map]
  rfl
theorem lenT (xs : List α) : lenC [e.tup.f xs] = some (nat.f xs.length) := by
  show some (PyData.int ((xs.map e.f).length : Nat)) = _
  rw [List.length_map]
  rfl
end En
abbrev eN : Nat → D := En.nat.f
theorem add_N (a b : Nat) : addD (eN a) (eN b) = some (eN (a + b)) := rfl
theorem lit_N (n : Nat) : (.int (no_index (OfNat.ofNat n)) : D) = eN (OfNat.ofNat n) := rfl
theorem lt_N (a b : Nat) : ltD (eN a) (eN b) = some (.bool (decide (a < b))) := by
  show some (PyData.bool (decide ((a : Int) < b))) = _
  simp
theorem gt_N (a b : Nat) : gtD (eN a) (eN b) = some (.bool (decide (b < a))) := by
  show some (PyData.bool (decide ((b : Int) < a))) = _
  simp
theorem le_N (a b : Nat) : leD (eN a) (eN b) = some (.bool (decide (a ≤ b))) := by
  show some (PyData.bool (decide ((a : Int) ≤ b))) = _
  simp
theorem ge_N (a b : Nat) : geD (eN a) (eN b) = some (.bool (decide (b ≤ a))) := by
  show some (PyData.bool (decide ((b : Int) ≤ a))) = _
  simp
theorem sub_N {a b : Nat} (h : b ≤ a) : subD (eN a) (eN b) = some (eN (a - b)) := by
  show some (PyData.int ((a : Int) - b)) = some (.int ((a - b : Nat) : Int))
  rw [Int.ofNat_sub h]
theorem max_N (a b : Nat) : maxC [eN a, eN b] = some (eN (max a b)) := by
  show some (PyData.int (max (a : Int) b)) = some (.int ((max a b : Nat) : Int))
  congr 2
  omega
theorem intsN : ∀ xs : List Nat, intsD (xs.map eN) = some (xs.map fun n : Nat => (n : Int))
  | [] => rfl
  | x :: xs => by
    rw [List.map_cons]
    show (match intsD (xs.map eN) with | some is => some ((x : Int) :: is) | none => none) = _
    rw [intsN xs]
    rfl
def insN (i : Nat) : List Nat → List Nat
  | [] => [i]
  | j :: r => if i ≤ j then i :: j :: r else j :: insN i r
def sortN : List Nat → List Nat
  | [] => []
  | i :: r => insN i (sortN r)
theorem insI_N (i : Nat) : ∀ xs : List Nat, insI (i : Int) (xs.map fun n : Nat => (n : Int)) = (insN i xs).map fun n : Nat => (n : Int)
  | [] => rfl
  | x :: xs => by
    rw [List.map_cons]
    unfold insI insN
    by_cases h : i ≤ x
    · rw [if_pos (by omega), if_pos h]; rfl
    · rw [if_neg (by omega), if_neg h, insI_N i xs]; rfl
theorem sortI_N : ∀ xs : List Nat, sortI (xs.map fun n : Nat => (n : Int)) = (sortN xs).map fun n : Nat => (n : Int)
  | [] => rfl
  | x :: xs => by
    rw [List.map_cons]
    show insI (x : Int) (sortI (xs.map fun n : Nat => (n : Int))) = _
    rw [sortI_N xs, insI_N]
    rfl
theorem sortC_N (xs : List Nat) : sortC [.list (xs.map eN)] = some ((sortN xs).map eN) := by
  show mO (intsD (xs.map eN)) (fun is => some ((sortI is).map PyData.int)) = _
  rw [intsN]
  show some ((sortI _).map _) = _
  rw [sortI_N, List.map_map]
  rfl
theorem insN_perm (i : Nat) : ∀ xs : List Nat, (insN i xs).Perm (i :: xs)
  | [] => .refl _
  | x :: xs => by
    unfold insN
    split
    · exact .refl _
    · exact ((insN_perm i xs).cons x).trans (.swap i x xs)
theorem sortN_perm : ∀ xs : List Nat, (sortN xs).Perm xs
  | [] => .refl _
  | x :: xs => (insN_perm x (sortN xs)).trans ((sortN_perm xs).cons x)
theorem insN_sorted (i : Nat) : ∀ xs : List Nat, xs.Pairwise (· ≤ ·) → (insN i xs).Pairwise (· ≤ ·)
  | [], _ => by simp [insN]
  | x :: xs, h => by
    have h1 := List.pairwise_cons.mp h
    unfold insN
    split
    · rename_i hx
      exact List.pairwise_cons.mpr ⟨fun y hy => by
        rcases List.mem_cons.mp hy with rfl | hy
        · exact hx
        · exact Nat.le_trans hx (h1.1 y hy), h⟩
    · rename_i hx
      refine List.pairwise_cons.mpr ⟨fun y hy => ?_, insN_sorted i xs h1.2⟩
      rcases List.mem_cons.mp ((insN_perm i xs).mem_iff.mp hy) with rfl | hy
      · omega
      · exact h1.1 y hy
theorem sortN_sorted : ∀ xs : List Nat, (sortN xs).Pairwise (· ≤ ·)
  | [] => .nil
  | x :: xs => insN_sorted x _ (sortN_sorted xs)
theorem rgN (a b : Nat) : rgD (a : Int) (b : Int) = ((List.range (b - a)).map fun i => eN (a + i)) := by
  unfold rgD
  have : ((b : Int) - a).toNat = b - a := by omega
  rw [this]
  rfl
theorem rgN0 (b : Nat) : rgD 0 (b : Int) = (List.range b).map eN := by
  have := rgN 0 b
  simp only [Nat.sub_zero, Nat.zero_add] at this
  exact this
theorem rgOkN {a b : Nat} (h1 : a ≤ 100000) (h2 : b ≤ 100000) : rgOk (a : Int) (b : Int) = true := by
  simp only [rgOk, Bool.and_eq_true, decide_eq_true_eq]
  omega
end DL
namespace DL
open PySem L2
theorem ixN_nat {n k : Nat} (h : k < n) : ixN n (k : Int) = some k := by
  unfold ixN
  rw [if_pos (by omega), if_pos (by omega), Int.toNat_natCast]
theorem sub_ev {i : Nat} {g : Y} {d : D} {ρ : Rho} {s s1 : Src} {k : Nat} {ds : List D} (h : g ρ s = some (eN k, s1)) (hi : ρ[i]? = some (.ow ds)) (hk : k < ds.length) : subG i g d ρ s = some (ρ.set i (.ow (ds.set k d)), s1) := by
  unfold subG
  rw [h]
  show (match ρ[i]?, (PyData.int (k : Int)) with | some (.ow ds), .int n => mO (ixN ds.length n) fun j => some (ρ.set i (.ow (ds.set j d)), s1) | _, _ => none) = _
  rw [hi]
  show mO (ixN ds.length (k : Int)) (fun j => some (ρ.set i (.ow (ds.set j d)), s1)) = _
  rw [ixN_nat hk]
  rfl
theorem oix_ev {α : Type} {e : En α} {i : Nat} {g : Y} {ρ : Rho} {s s1 : Src} {k : Nat} {xs : List α} (h : g ρ s = some (eN k, s1)) (hi : ρ[i]? = some (.ow (xs.map e.f))) (hk : k < xs.length) : oixY i g ρ s = some (e.f xs[k], s1) := by
  unfold oixY
  rw [h]
  show (match ρ[i]?, (PyData.int (k : Int)) with | some (.ow ds), .int n => mO (atI ds n) fun d => some (d, s1) | _, _ => none) = _
  rw [hi]
  show mO (atI (xs.map e.f) (k : Int)) (fun d => some (d, s1)) = _
  rw [e.atL, List.getElem?_eq_getElem hk]
  rfl
theorem asgG_ev {g : Y} {b : Tg} {ρ ρ1 : Rho} {s s1 s2 : Src} {d : D} (h : g ρ s = some (d, s1)) (h2 : b d ρ s1 = some (ρ1, s2)) : asgGS g b ρ s = some (.nx ρ1, s2) := by
  unfold asgGS
  rw [h]
  dsimp only [bO]
  rw [h2]
theorem tupG2_ev {b c : Tg} {x y : D} {ρ ρ1 ρ2 : Rho} {s s1 s2 : Src} (h : b x ρ s = some (ρ1, s1)) (h2 : c y ρ1 s1 = some (ρ2, s2)) : tupG 2 (consGs b (consGs c nilGs)) (.tuple [x, y]) ρ s = some (ρ2, s2) := by
  show bO (b x ρ s) (fun ρ1 s1 => bO (c y ρ1 s1) fun ρ1 s1 => some (ρ1, s1)) = _
  rw [h]
  dsimp only [bO]
  rw [h2]
theorem app_ev {i : Nat} {g : Y} {ρ : Rho} {s s1 : Src} {d : D} {ds : List D} (h : g ρ s = some (d, s1)) (hi : ρ[i]? = some (.ow ds)) (hl : ds.length < lim) : appS i g ρ s = some (.nx (ρ.set i (.ow (ds ++ [d]))), s1) := by
  unfold appS
  rw [h]
  show (match ρ[i]? with | some (.ow ds) => if ds.length < lim then some (Fl.nx (ρ.set i (.ow (ds ++ [d]))), s1) else none | _ => none) = _
  rw [hi]
  exact if_pos hl
theorem frz_ev {i : Nat} {G : Z} {ρ : Rho} {s : Src} {ds : List D} (hi : ρ[i]? = some (.ow ds)) : frzS i G ρ s = G (ρ.set i (.fz (.list ds))) s := by
  unfold frzS frzR
  rw [hi]
theorem ir1_ev {g : Y} {ρ : Rho} {s s1 : Src} {n : Nat} (h : g ρ s = some (eN n, s1)) (hn : n ≤ 100000) : iR1 g ρ s = some ((List.range n).map eN, s1) := by
  unfold iR1
  rw [h]
  show (if rgOk 0 (n : Int) = true then some (rgD 0 (n : Int), s1) else none) = _
  have h0 : rgOk 0 (n : Int) = true := rgOkN (a := 0) (by omega) hn
  rw [if_pos h0, rgN0]
theorem ir2_ev {g h : Y} {ρ : Rho} {s s1 s2 : Src} {m n : Nat} (h1 : g ρ s = some (eN m, s1)) (h2 : h ρ s1 = some (eN n, s2)) (hm : m ≤ 100000) (hn : n ≤ 100000) : iR2 g h ρ s = some ((List.range (n - m)).map fun i => eN (m + i), s2) := by
  unfold iR2
  rw [h1]
  dsimp only [bO]
  rw [h2]
  show (if rgOk (m : Int) (n : Int) = true then some (rgD (m : Int) (n : Int), s2) else none) = _
  rw [if_pos (rgOkN hm hn), rgN]
theorem iy_ev {g : Y} {ρ : Rho} {s s1 : Src} {d : D} {ds : List D} (h : g ρ s = some (d, s1)) (hd : itemsD d = some ds) : iY g ρ s = some (ds, s1) := by
  unfold iY
  rw [h]
  dsimp only [bO]
  rw [hd]
  rfl
theorem iz_ev {g h : Y} {ρ : Rho} {s s1 s2 : Src} {xs ys : List D} (h1 : g ρ s = some (.list xs, s1)) (h2 : h ρ s1 = some (.list ys, s2)) : iZ g h ρ s = some (xs.zip ys, s2) := by
  unfold iZ
  rw [h1]
  dsimp only [bO]
  rw [h2]
theorem lcGo_evm {α β : Type} {e : β → α} {bind : α → Rho → Option Rho} {t : Yb} {el : Y} {ρ : Rho} {s : Src} (p : β → Bool) (f : β → D) : ∀ (xs : List β) (acc : List D),
    (∀ x ∈ xs, ∃ ρ1, bind (e x) ρ = some ρ1 ∧ t ρ1 s = some (p x, s) ∧ (p x = true → el ρ1 s = some (f x, s))) → acc.length + xs.length ≤ lim → lcGo bind t el (xs.map e) acc ρ s = some (acc ++ (xs.filter p).map f, s)
  | [], acc, _, _ => by
    rw [List.filter_nil, List.map_nil, List.map_nil, List.append_nil]
    rfl
  | x :: xs, acc, h, hl => by
    obtain ⟨ρ1, e1, e2, e3⟩ := h x List.mem_cons_self
    rw [List.length_cons] at hl
    rw [List.map_cons]
    unfold lcGo
    rw [e1]
    dsimp only [mO]
    rw [e2]
    dsimp only [bO]
    cases hx : p x with
    | false =>
      rw [if_neg Bool.false_ne_true, lcGo_evm p f xs acc (fun y hy => h y (List.mem_cons_of_mem _ hy)) (by omega), List.filter_cons, hx, if_neg Bool.false_ne_true]
    | true =>
      rw [if_pos rfl, e3 hx]
      dsimp only
      rw [if_pos (by omega), lcGo_evm p f xs (acc ++ [f x]) (fun y hy => h y (List.mem_cons_of_mem _ hy)) (by rw [List.length_append, List.length_singleton]; omega), List.filter_cons, hx, if_pos rfl, List.map_cons, List.append_assoc]
      rfl
/-- a comprehension over encoded items -/
theorem lcE_ev {α : Type} {e : α → D} {fi : Yl} {i : Nat} {t : Yb} {el : Y} {vs : List Nat} {ρ : Rho} {s s1 : Src} {xs : List α} (p : α → Bool) (f : α → D) (h0 : fi ρ s = some (xs.map e, s1))
    (h : ∀ x ∈ xs, t ((wipeR ρ vs).set i (.fz (e x))) s1 = some (p x, s1) ∧ (p x = true → el ((wipeR ρ vs).set i (.fz (e x))) s1 = some (f x, s1))) (hl : xs.length ≤ lim) : lcY fi (bN i) t el vs ρ s = some ((xs.filter p).map f, s1) := by
  unfold lcY
  rw [h0]
  dsimp only [bO]
  rw [lcGo_evm p f xs [] (fun x hx => ⟨_, rfl, h x hx⟩) (by rw [List.length_nil]; omega)]
  rfl
end DL
namespace DL
open PySem L2
theorem forE_fold {β γ : Type} {e : γ → D} {i : Nat} {G : Z} (R : β → Rho → Prop) (step : β → γ → β) {s : Src} : ∀ (xs : List γ) (b : β) (ρ : Rho),
    (∀ b x ρ, x ∈ xs → R b ρ → ∃ ρ2, G (ρ.set i (.fz (e x))) s = some (.nx ρ2, s) ∧ R (step b x) ρ2) → R b ρ → ∃ ρ', forGo (bN i) G (xs.map e) ρ s = some (.nx ρ', s) ∧ R (xs.foldl step b) ρ'
  | [], b, ρ, _, h0 => ⟨ρ, rfl, h0⟩
  | x :: xs, b, ρ, h, h0 => by
    obtain ⟨ρ2, e2, e3⟩ := h b x ρ List.mem_cons_self h0
    obtain ⟨ρ', e4, e5⟩ := forE_fold R step xs (step b x) ρ2 (fun b y ρ hy => h b y ρ (List.mem_cons_of_mem _ hy)) e3
    refine ⟨ρ', ?_, e5⟩
    show bO (G (ρ.set i (.fz (e x))) s) _ = _
    rw [e2]
    exact e4
theorem forE_all {γ : Type} {e : γ → D} {i : Nat} {G : Z} (R : Rho → Prop) (ok : γ → Bool) (d : D) {s : Src} : ∀ (xs : List γ) (ρ : Rho),
    (∀ x ρ, x ∈ xs → R ρ → (ok x = true → ∃ ρ2, G (ρ.set i (.fz (e x))) s = some (.nx ρ2, s) ∧ R ρ2) ∧ (ok x = false → G (ρ.set i (.fz (e x))) s = some (.rt d, s))) → R ρ →
      if xs.all ok = true then ∃ ρ', forGo (bN i) G (xs.map e) ρ s = some (.nx ρ', s) ∧ R ρ' else forGo (bN i) G (xs.map e) ρ s = some (.rt d, s)
  | [], ρ, _, h0 => by
    rw [List.all_nil, if_pos rfl]
    exact ⟨ρ, rfl, h0⟩
  | x :: xs, ρ, h, h0 => by
    obtain ⟨e2, e3⟩ := h x ρ List.mem_cons_self h0
    rw [List.map_cons]
    unfold forGo
    dsimp only [mO, bN]
    cases hx : ok x with
    | false =>
      rw [e3 hx, List.all_cons, hx, Bool.false_and, if_neg Bool.false_ne_true]
      rfl
    | true =>
      obtain ⟨ρ2, e4, e5⟩ := e2 hx
      rw [e4, List.all_cons, hx, Bool.true_and]
      exact forE_all R ok d xs ρ2 (fun y ρ hy => h y ρ (List.mem_cons_of_mem _ hy)) e5
end DL
namespace DL
open PySem L2
theorem seq_s {a b : Z} {ρ ρ1 : Rho} {s s1 : Src} {r : Option (Fl × Src)} (h : a ρ s = some (.nx ρ1, s1)) (h2 : b ρ1 s1 = r) : seqS a b ρ s = r := (seq_nx h).trans h2
theorem for_s {α : Type} {fi : Rho → Src → Option (List α × Src)} {bind : α → Rho → Option Rho} {G : Z} {ρ : Rho} {s s1 : Src} {xs : List α} {r : Option (Fl × Src)} (h : fi ρ s = some (xs, s1)) (h2 : forGo bind G xs ρ s1 = r) : forS fi bind G ρ s = r := (for_ev h).trans h2
theorem ifY_s {t : Yb} {a b : Y} {ρ : Rho} {s s1 : Src} {x : Bool} {r : Option (D × Src)} (h : t ρ s = some (x, s1)) (h2 : (if x = true then a ρ s1 else b ρ s1) = r) : ifY t a b ρ s = r := (ifY_ev h).trans h2
theorem if_s {c : Yb} {a b : Z} {ρ : Rho} {s s1 : Src} {x : Bool} {r : Option (Fl × Src)} (h : c ρ s = some (x, s1)) (h2 : (if x = true then a ρ s1 else b ρ s1) = r) : ifS c a b ρ s = r := (if_ev h).trans h2
theorem frz_s {i : Nat} {G : Z} {ρ : Rho} {s : Src} {ds : List D} {r : Option (Fl × Src)} (hi : ρ[i]? = some (.ow ds)) (h : G (ρ.set i (.fz (.list ds))) s = r) : frzS i G ρ s = r := (frz_ev hi).trans h
end DL
namespace DL
open PySem L2
theorem fold_s {β γ : Type} {e : γ → D} {i : Nat} {fi : Yl} {G rest : Z} {ρ : Rho} {s s1 : Src} {r : Option (Fl × Src)} {xs : List γ} (h0 : fi ρ s = some (xs.map e, s1)) (R : β → Rho → Prop) (step : β → γ → β) (b : β)
    (h : ∀ b x ρ, x ∈ xs → R b ρ → ∃ ρ2, G (ρ.set i (.fz (e x))) s1 = some (.nx ρ2, s1) ∧ R (step b x) ρ2) (hR : R b ρ) (k : ∀ ρ', R (xs.foldl step b) ρ' → rest ρ' s1 = r) : seqS (forS fi (bN i) G) rest ρ s = r := by
  obtain ⟨ρ', e1, e2⟩ := forE_fold (G := G) (i := i) (s := s1) R step xs b ρ h hR
  exact seq_s (for_s h0 e1) (k ρ' e2)
theorem all_s {γ : Type} {e : γ → D} {i : Nat} {fi : Yl} {G rest : Z} {ρ : Rho} {s s1 : Src} {r : Option (Fl × Src)} {xs : List γ} (h0 : fi ρ s = some (xs.map e, s1)) (R : Rho → Prop) (ok : γ → Bool) (d : D)
    (h : ∀ x ρ, x ∈ xs → R ρ → (ok x = true → ∃ ρ2, G (ρ.set i (.fz (e x))) s1 = some (.nx ρ2, s1) ∧ R ρ2) ∧ (ok x = false → G (ρ.set i (.fz (e x))) s1 = some (.rt d, s1))) (hR : R ρ)
    (k : xs.all ok = true → ∀ ρ', R ρ' → rest ρ' s1 = r) (k2 : xs.all ok = false → some (.rt d, s1) = r) : seqS (forS fi (bN i) G) rest ρ s = r := by
  have L := forE_all (G := G) (i := i) (s := s1) R ok d xs ρ h hR
  cases hx : xs.all ok with
  | true =>
    rw [hx, if_pos rfl] at L
    obtain ⟨ρ', e1, e2⟩ := L
    exact seq_s (for_s h0 e1) (k hx ρ' e2)
  | false =>
    rw [hx, if_neg Bool.false_ne_true] at L
    rw [← k2 hx]
    exact seq_rt ((for_ev h0).trans L)
theorem rel_s {γ : Type} {fi : Rho → Src → Option (List γ × Src)} {bind : γ → Rho → Option Rho} {G rest : Z} {ρ : Rho} {s s1 : Src} {xs : List γ} (h0 : fi ρ s = some (xs, s1)) (I : Nat → Rho → Src → Prop) (Post : Fl → Src → Prop)
    (h : ∀ i x ρ s, xs[i]? = some x → I i ρ s → ∃ ρ1 fl s1, bind x ρ = some ρ1 ∧ G ρ1 s = some (fl, s1) ∧ match fl with
      | .nx ρ2 => I (i + 1) ρ2 s1
      | .ct ρ2 => I (i + 1) ρ2 s1
      | .bk ρ2 => ∃ fl s2, rest ρ2 s1 = some (fl, s2) ∧ Post fl s2
      | .rt d => Post (.rt d) s1) (hI : I 0 ρ s1) (k : ∀ ρ s, I xs.length ρ s → ∃ fl s2, rest ρ s = some (fl, s2) ∧ Post fl s2) : ∃ fl s2, seqS (forS fi bind G) rest ρ s = some (fl, s2) ∧ Post fl s2 := by
  obtain ⟨fl, s2, e1, e2⟩ := forGo_rel (G := G) (bind := bind) (xs := xs) I (fun fl s => match fl with
      | .nx ρ2 => ∃ fl s2, rest ρ2 s = some (fl, s2) ∧ Post fl s2
      | .rt d => Post (.rt d) s
      | _ => False) (fun i x ρ s hx hi => by
        obtain ⟨ρ1, fl, s1, e1, e2, e3⟩ := h i x ρ s hx hi
        refine ⟨ρ1, fl, s1, e1, e2, ?_⟩
        cases fl <;> exact e3) k hI
  have e3 := (for_ev h0).trans e1
  cases fl with
  | nx ρ2 =>
    obtain ⟨fl, s3, z1, z2⟩ := e2
    exact ⟨fl, s3, seq_s e3 z1, z2⟩
  | rt d => exact ⟨_, _, seq_rt e3, e2⟩
  | bk _ => exact e2.elim
  | ct _ => exact e2.elim
end DL
namespace DL
open PySem L2
theorem fold_x {β γ : Type} {e : γ → D} {i : Nat} {fi : Yl} {G : Z} {ρ : Rho} {s s1 : Src} {xs : List γ} (h0 : fi ρ s = some (xs.map e, s1)) (R : β → Rho → Prop) (step : β → γ → β) (b : β)
    (h : ∀ b x ρ, x ∈ xs → R b ρ → ∃ ρ2, G (ρ.set i (.fz (e x))) s1 = some (.nx ρ2, s1) ∧ R (step b x) ρ2) (hR : R b ρ) : ∃ ρ', forS fi (bN i) G ρ s = some (.nx ρ', s1) ∧ R (xs.foldl step b) ρ' := by
  obtain ⟨ρ', e1, e2⟩ := forE_fold (G := G) (i := i) (s := s1) R step xs b ρ h hR
  exact ⟨ρ', for_s h0 e1, e2⟩
theorem forM_all {α γ : Type} {e : γ → α} {bind : α → Rho → Option Rho} {G : Z} (R : Rho → Prop) (ok : γ → Bool) (d : D) {s : Src} : ∀ (xs : List γ) (ρ : Rho),
    (∀ x ρ, x ∈ xs → R ρ → ∃ ρ1, bind (e x) ρ = some ρ1 ∧ (ok x = true → ∃ ρ2, G ρ1 s = some (.nx ρ2, s) ∧ R ρ2) ∧ (ok x = false → G ρ1 s = some (.rt d, s))) → R ρ →
      if xs.all ok = true then ∃ ρ', forGo bind G (xs.map e) ρ s = some (.nx ρ', s) ∧ R ρ' else forGo bind G (xs.map e) ρ s = some (.rt d, s)
  | [], ρ, _, h0 => by
    rw [List.all_nil, if_pos rfl]
    exact ⟨ρ, rfl, h0⟩
  | x :: xs, ρ, h, h0 => by
    obtain ⟨ρ1, e1, e2, e3⟩ := h x ρ List.mem_cons_self h0
    rw [List.map_cons]
    unfold forGo
    rw [e1]
    dsimp only [mO]
    cases hx : ok x with
    | false =>
      rw [e3 hx, List.all_cons, hx, Bool.false_and, if_neg Bool.false_ne_true]
      rfl
    | true =>
      obtain ⟨ρ2, e4, e5⟩ := e2 hx
      rw [e4, List.all_cons, hx, Bool.true_and]
      exact forM_all R ok d xs ρ2 (fun y ρ hy => h y ρ (List.mem_cons_of_mem _ hy)) e5
theorem all_x {α γ : Type} {e : γ → α} {fi : Rho → Src → Option (List α × Src)} {bind : α → Rho → Option Rho} {G : Z} {ρ : Rho} {s s1 : Src} {xs : List γ} (h0 : fi ρ s = some (xs.map e, s1)) (R : Rho → Prop) (ok : γ → Bool) (d : D)
    (h : ∀ x ρ, x ∈ xs → R ρ → ∃ ρ1, bind (e x) ρ = some ρ1 ∧ (ok x = true → ∃ ρ2, G ρ1 s1 = some (.nx ρ2, s1) ∧ R ρ2) ∧ (ok x = false → G ρ1 s1 = some (.rt d, s1))) (hR : R ρ) :
    (xs.all ok = true → ∃ ρ2, forS fi bind G ρ s = some (.nx ρ2, s1) ∧ R ρ2) ∧ (xs.all ok = false → forS fi bind G ρ s = some (.rt d, s1)) := by
  have L := forM_all (G := G) (bind := bind) (s := s1) R ok d xs ρ h hR
  rw [for_ev h0]
  cases hx : xs.all ok with
  | true =>
    rw [hx, if_pos rfl] at L
    exact ⟨fun _ => L, fun z => nomatch z⟩
  | false =>
    rw [hx, if_neg Bool.false_ne_true] at L
    exact ⟨fun z => (nomatch z), fun _ => L⟩
theorem cut_take {α : Type} (xs : List α) (i : Nat) : cutL xs none (some (i : Int)) = xs.take i := by
  unfold cutL
  rw [HT.sIx_nat, HT.sIx_none, List.drop_zero, Nat.sub_zero]
  by_cases h : i ≤ xs.length
  · rw [Nat.min_eq_left h]
  · rw [Nat.min_eq_right (by omega), List.take_of_length_le (Nat.le_refl _), List.take_of_length_le (by omega)]
theorem cut_drop {α : Type} (xs : List α) (i : Nat) : cutL xs (some (i : Int)) none = xs.drop i := by
  unfold cutL
  rw [HT.sIx_nat, HT.sIx_none]
  by_cases h : i ≤ xs.length
  · rw [Nat.min_eq_left h, List.take_of_length_le (by rw [List.length_drop]; exact Nat.le_refl _)]
  · rw [Nat.min_eq_right (by omega), List.drop_eq_nil_of_le (Nat.le_refl _), List.drop_eq_nil_of_le (by omega), List.take_nil]
theorem cut_mid {α : Type} (xs : List α) (i j : Nat) (hj : j ≤ xs.length) : cutL xs (some (i : Int)) (some (j : Int)) = (xs.drop i).take (j - i) := by
  unfold cutL
  rw [HT.sIx_nat, HT.sIx_nat, Nat.min_eq_left hj]
  by_cases h : i ≤ xs.length
  · rw [Nat.min_eq_left h]
  · rw [Nat.min_eq_right (by omega), List.drop_eq_nil_of_le (Nat.le_refl _), List.drop_eq_nil_of_le (show xs.length ≤ i by omega), List.take_nil, List.take_nil]
theorem sl_ev {a : Y} {l u : Yo} {ρ : Rho} {s s1 s2 s3 : Src} {x d : D} {lo hi : Option Int} (h1 : a ρ s = some (x, s1)) (h2 : l ρ s1 = some (lo, s2)) (h3 : u ρ s2 = some (hi, s3)) (h4 : slD x lo hi = some d) : slY slD a l u ρ s = some (d, s3) := by
  unfold slY
  rw [h1]
  dsimp only [bO]
  rw [h2]
  dsimp only [bO]
  rw [h3]
  dsimp only [bO]
  rw [h4]
  rfl
theorem oy_ev {g : Y} {ρ : Rho} {s s1 : Src} {n : Nat} (h : g ρ s = some (eN n, s1)) : oYes g ρ s = some (some (n : Int), s1) := by
  unfold oYes
  rw [h]
  rfl
theorem sl_takeT {α : Type} (e : En α) (xs : List α) (i : Nat) : slD (e.tup.f xs) none (some (i : Int)) = some (e.tup.f (xs.take i)) := by
  show some (PyData.tuple (cutL (xs.map e.f) none (some (i : Int)))) = _
  rw [cut_take, ← List.map_take]
  rfl
theorem sl_dropT {α : Type} (e : En α) (xs : List α) (i : Nat) : slD (e.tup.f xs) (some (i : Int)) none = some (e.tup.f (xs.drop i)) := by
  show some (PyData.tuple (cutL (xs.map e.f) (some (i : Int)) none)) = _
  rw [cut_drop, ← List.map_drop]
  rfl
theorem sl_midT {α : Type} (e : En α) (xs : List α) (i j : Nat) (hj : j ≤ xs.length) : slD (e.tup.f xs) (some (i : Int)) (some (j : Int)) = some (e.tup.f ((xs.drop i).take (j - i))) := by
  show some (PyData.tuple (cutL (xs.map e.f) (some (i : Int)) (some (j : Int)))) = _
  rw [cut_mid _ _ _ (by rw [List.length_map]; exact hj), ← List.map_drop, ← List.map_take]
  rfl
theorem sortC_T (xs : List Nat) : sortC [.tuple (xs.map eN)] = some ((sortN xs).map eN) := sortC_N xs
end DL
/-! ### draws -/
namespace DL
open PySem L2
theorem pick_ev {n : Nat} (h0 : 0 < n) (h : n < 1000000) (s : Src) : ∃ k s', k < n ∧ pickM [eN n] s = some (eN k, s') := by
  have hr := pick_range (n : Int) s
  rw [show mx1 (n : Int) = n by unfold mx1; split <;> omega] at hr
  refine ⟨(pickP n s).1.toNat, (pickP n s).2, by omega, ?_⟩
  have : pickM [eN n] s = some (.int (pickP n s).1, (pickP n s).2) := pickM_eq s (by omega)
  rw [this]
  show _ = some (PyData.int (((pickP n s).1.toNat : Nat) : Int), _)
  rw [Int.toNat_of_nonneg hr.1]
theorem draw_ev {i n : Nat} {m : List D → Src → Option (D × Src)} {g : Yl} {ρ : Rho} {s s1 : Src} {xs : List D} {r : Option (D × Src)} (h : ρ[i]? = some .sr) (hg : g ρ s = some (xs, s1)) (hn : xs.length = n) (hr : m xs s1 = r) : drawY i n m g ρ s = r := (drawY_ev h hg hn).trans hr
theorem erase_perm {α : Type} (xs : List α) (k : Nat) (h : k < xs.length) : (xs[k] :: xs.eraseIdx k).Perm xs := by
  induction xs generalizing k with
  | nil => exact absurd h (Nat.not_lt_zero _)
  | cons x xs ih =>
    cases k with
    | zero => exact .refl _
    | succ k =>
      rw [List.eraseIdx_cons_succ]
      exact (List.Perm.swap _ _ _).trans ((ih k (by simpa using h)).cons x)
theorem mixedGo_perm : ∀ (n : Nat) (xs : List D) (s : Src), xs.length = n → (mixedGo n xs s).1.Perm xs
  | 0, xs, s, h => by
    rw [List.length_eq_zero_iff.mp h]
    exact .refl _
  | n + 1, xs, s, h => by
    have hr := pick_range (xs.length : Int) s
    rw [show mx1 (xs.length : Int) = xs.length by unfold mx1; split <;> omega] at hr
    have hk : (pickP xs.length s).1.toNat < xs.length := by omega
    unfold mixedGo
    dsimp only
    rw [List.getElem?_eq_getElem hk]
    refine .trans (.cons _ (mixedGo_perm n _ _ (by rw [List.length_eraseIdx, if_pos hk, h]; rfl))) ?_
    exact erase_perm xs _ hk
theorem perm_map_inv {α β : Type} {f : α → β} {ys : List β} {xs : List α} (h : ys.Perm (xs.map f)) : ∃ zs : List α, ys = zs.map f ∧ zs.Perm xs := by
  generalize hm : xs.map f = m at h
  induction h generalizing xs with
  | nil => exact ⟨[], rfl, by rw [List.map_eq_nil_iff.mp hm]⟩
  | cons y _ ih =>
    cases xs with
    | nil => cases hm
    | cons x xs =>
      rw [List.map_cons, List.cons.injEq] at hm
      obtain ⟨zs, h1, h2⟩ := ih hm.2
      exact ⟨x :: zs, by rw [List.map_cons, hm.1, ← h1], h2.cons x⟩
  | swap y z l =>
    match xs, hm with
    | a :: b :: xs, hm =>
      rw [List.map_cons, List.map_cons, List.cons.injEq, List.cons.injEq] at hm
      exact ⟨b :: a :: xs, by rw [List.map_cons, List.map_cons, hm.1, hm.2.1, hm.2.2], .swap _ _ _⟩
  | trans _ _ ih1 ih2 =>
    obtain ⟨zs, h1, h2⟩ := ih2 hm
    obtain ⟨ws, h3, h4⟩ := ih1 h1.symm
    exact ⟨ws, h3, h4.trans h2⟩
theorem mix_ev {α : Type} {f : α → D} (xs : List α) (s : Src) (h : xs.length < 1000) : ∃ (ys : List α) (s' : Src), ys.Perm xs ∧ mixedM [.list (xs.map f)] s = some (.list (ys.map f), s') := by
  obtain ⟨ys, h1, h2⟩ := perm_map_inv (mixedGo_perm (xs.map f).length (xs.map f) s rfl)
  refine ⟨ys, (mixedGo (xs.map f).length (xs.map f) s).2, h2, ?_⟩
  show (if (xs.map f).length < 1000 then _ else _) = _
  rw [if_pos (by rw [List.length_map]; exact h), h1]
theorem mix_evT {α : Type} {f : α → D} (xs : List α) (s : Src) (h : xs.length < 1000) : ∃ (ys : List α) (s' : Src), ys.Perm xs ∧ mixedM [.tuple (xs.map f)] s = some (.list (ys.map f), s') := mix_ev xs s h
theorem rel_x {γ : Type} {fi : Rho → Src → Option (List γ × Src)} {bind : γ → Rho → Option Rho} {G : Z} {ρ : Rho} {s s1 : Src} {xs : List γ} (h0 : fi ρ s = some (xs, s1)) (I : Nat → Rho → Src → Prop)
    (h : ∀ i x ρ s, xs[i]? = some x → I i ρ s → ∃ ρ1 ρ2 s1, bind x ρ = some ρ1 ∧ G ρ1 s = some (.nx ρ2, s1) ∧ I (i + 1) ρ2 s1) (hI : I 0 ρ s1) : ∃ ρ2 s2, forS fi bind G ρ s = some (.nx ρ2, s2) ∧ I xs.length ρ2 s2 := by
  obtain ⟨fl, s2, e1, e2⟩ := forGo_rel (G := G) (bind := bind) (xs := xs) I (fun fl s => ∃ ρ2, fl = .nx ρ2 ∧ I xs.length ρ2 s) (fun i x ρ s hx hi => by
    obtain ⟨ρ1, ρ2, s1, e1, e2, e3⟩ := h i x ρ s hx hi
    exact ⟨ρ1, .nx ρ2, s1, e1, e2, e3⟩) (fun ρ s hi => ⟨ρ, rfl, hi⟩) hI
  obtain ⟨ρ2, rfl, e3⟩ := e2
  exact ⟨ρ2, s2, for_s h0 e1, e3⟩
end DL
namespace DL
open PySem L2
theorem ch_ev {f g : D → D → Option D} {a b c : Y} {ρ : Rho} {s s1 s2 s3 : Src} {x y w : D} {p q : Bool} (h1 : a ρ s = some (x, s1)) (h2 : b ρ s1 = some (y, s2)) (h3 : f x y = some (.bool p)) (h4 : p = true → c ρ s2 = some (w, s3) ∧ g y w = some (.bool q)) (h5 : p = false → s2 = s3) :
    chY f g a b c ρ s = some (.bool (p && q), s3) := by
  unfold chY
  rw [h1]
  dsimp only [bO]
  rw [h2]
  dsimp only [bO]
  rw [h3]
  dsimp only [mO]
  cases p with
  | true =>
    obtain ⟨e1, e2⟩ := h4 rfl
    dsimp only
    rw [e1]
    dsimp only [bO]
    rw [e2]
    rfl
  | false =>
    rw [h5 rfl]
    rfl
end DL
namespace DL
open PySem L2
theorem rel_nx {γ : Type} {fi : Rho → Src → Option (List γ × Src)} {bind : γ → Rho → Option Rho} {G rest : Z} {ρ : Rho} {s s1 : Src} {xs : List γ} {fl0 : Fl} (h0 : fi ρ s = some (xs, s1)) (I : Rho → Prop)
    (h : ∀ x ρ s, x ∈ xs → I ρ → ∃ ρ1 ρ2 s1, bind x ρ = some ρ1 ∧ G ρ1 s = some (.nx ρ2, s1) ∧ I ρ2) (hI : I ρ) (k : ∀ ρ s, I ρ → ∃ s2, rest ρ s = some (fl0, s2)) : ∃ s2, seqS (forS fi bind G) rest ρ s = some (fl0, s2) := by
  obtain ⟨ρ2, s2, e1, e2⟩ := rel_x (G := G) (bind := bind) (s := s) h0 (fun _ ρ _ => I ρ) (fun i x ρ s hx hi => h x ρ s (List.mem_of_getElem? hx) hi) hI
  obtain ⟨s3, e3⟩ := k ρ2 s2 e2
  exact ⟨s3, seq_s e1 e3⟩
theorem rel_nx1 {γ : Type} {fi : Rho → Src → Option (List γ × Src)} {bind : γ → Rho → Option Rho} {G : Z} {ρ : Rho} {s s1 : Src} {xs : List γ} (h0 : fi ρ s = some (xs, s1)) (I : Rho → Prop)
    (h : ∀ x ρ s, x ∈ xs → I ρ → ∃ ρ1 ρ2 s1, bind x ρ = some ρ1 ∧ G ρ1 s = some (.nx ρ2, s1) ∧ I ρ2) (hI : I ρ) : ∃ ρ2 s2, forS fi bind G ρ s = some (.nx ρ2, s2) ∧ I ρ2 := by
  obtain ⟨ρ2, s2, e1, e2⟩ := rel_x (G := G) (bind := bind) (s := s) h0 (fun _ ρ _ => I ρ) (fun i x ρ s hx hi => h x ρ s (List.mem_of_getElem? hx) hi) hI
  exact ⟨ρ2, s2, e1, e2⟩
/-- a comprehension without a test, its items encoded -/
theorem lcG_ev {α β : Type} {e : α → D} {e' : β → D} {fi : Yl} {i : Nat} {el : Y} {vs : List Nat} {ρ : Rho} {s s1 : Src} {xs : List α} (g : α → β) (h0 : fi ρ s = some (xs.map e, s1))
    (h : ∀ x ∈ xs, el ((wipeR ρ vs).set i (.fz (e x))) s1 = some (e' (g x), s1)) (hl : xs.length ≤ lim) : lcY fi (bN i) yesT el vs ρ s = some ((xs.map g).map e', s1) := by
  rw [lcE_ev (fun _ => true) (fun x => e' (g x)) h0 (fun x hx => ⟨rfl, fun _ => h x hx⟩) hl, List.filter_eq_self.mpr fun _ _ => rfl, List.map_map]
  rfl
/-- a comprehension that only chooses -/
theorem lcF_ev {α : Type} {e : α → D} {fi : Yl} {i : Nat} {t : Yb} {el : Y} {vs : List Nat} {ρ : Rho} {s s1 : Src} {xs : List α} (p : α → Bool) (h0 : fi ρ s = some (xs.map e, s1))
    (h : ∀ x ∈ xs, t ((wipeR ρ vs).set i (.fz (e x))) s1 = some (p x, s1) ∧ el ((wipeR ρ vs).set i (.fz (e x))) s1 = some (e x, s1)) (hl : xs.length ≤ lim) : lcY fi (bN i) t el vs ρ s = some ((xs.filter p).map e, s1) :=
  lcE_ev p e h0 (fun x hx => ⟨(h x hx).1, fun _ => (h x hx).2⟩) hl
end DL
namespace DL
open PySem L2
theorem seq_e {a b : Z} {ρ ρ1 : Rho} {s s1 : Src} {P : Rho → Prop} (h : a ρ s = some (.nx ρ1, s1)) (h2 : ∃ ρ2 s2, b ρ1 s1 = some (.nx ρ2, s2) ∧ P ρ2) : ∃ ρ2 s2, seqS a b ρ s = some (.nx ρ2, s2) ∧ P ρ2 := by
  obtain ⟨ρ2, s2, e1, e2⟩ := h2
  exact ⟨ρ2, s2, seq_s h e1, e2⟩
theorem body_e {i : Nat} {x : D} {G : Z} {ρ : Rho} {s : Src} {P : Rho → Prop} (h : ∃ ρ2 s1, G (ρ.set i (.fz x)) s = some (.nx ρ2, s1) ∧ P ρ2) : ∃ ρ1 ρ2 s1, bN i x ρ = some ρ1 ∧ G ρ1 s = some (.nx ρ2, s1) ∧ P ρ2 := by
  obtain ⟨ρ2, s1, h1, h2⟩ := h
  exact ⟨_, ρ2, s1, rfl, h1, h2⟩
end DL
namespace DL
open PySem L2
theorem ifno_e {c : Yb} {a : Z} {ρ : Rho} {s s1 : Src} (h : c ρ s = some (false, s1)) : ifS c a nxS ρ s = some (.nx ρ, s1) := (if_f h).trans rfl
theorem or_no {g h : Yb} {ρ : Rho} {s s1 s2 : Src} (h1 : g ρ s = some (false, s1)) (h2 : h ρ s1 = some (false, s2)) : orT g h ρ s = some (false, s2) := by
  unfold orT
  rw [h1]
  exact h2
end DL

set_option Elab.async false
set_option linter.all false
set_option maxRecDepth 100000
set_option maxHeartbeats 4000000
namespace W81
open PySem L2 DL
abbrev eR : List Nat → D := (En.tup En.nat).f
abbrev eRs : List (List Nat) → D := (En.lst (En.tup En.nat)).f
/-! ### rows: what each def answers -/
def swapN (r : List Nat) (i j : Nat) : List Nat := (r.set i (r.getD j 0)).set j (r.getD i 0)
theorem getD_lt {r : List Nat} {i : Nat} (h : i < r.length) : r.getD i 0 = r[i] := by
  rw [List.getD_eq_getElem?_getD, List.getElem?_eq_getElem h]
  rfl
theorem exch_ev {r : List Nat} {i j : Nat} (hi : i < r.length) (hj : j < r.length) : m_exchanged [eR r, eN i, eN j] = some (eR (swapN r i j)) := by
  refine runD_rt (s := dummy) ?_
  unfold G_exchanged
  refine seq_s (asgo_ev (ynC_ev (ac_ev rfl an_ev) rfl)) ?_
  refine seq_s (asgG_ev (tup_ev (ac_ev (oix_ev (e := En.nat) (xs := r) rfl rfl hj) (ac_ev (oix_ev (e := En.nat) (xs := r) rfl rfl hi) an_ev)) (by show 2 ≤ lim; decide)) (tupG2_ev (sub_ev rfl rfl (by rw [List.length_map]; exact hi)) (sub_ev rfl rfl (by rw [List.length_set, List.length_map]; exact hj)))) ?_
  refine frz_s rfl (ret_ev (yC_ev (ac_ev rfl an_ev) ?_))
  unfold swapN
  rw [getD_lt hi, getD_lt hj]
  show some (PyData.tuple (((r.map eN).set i (eN r[j])).set j (eN r[i]))) = some (.tuple (((r.set i r[j]).set j r[i]).map eN))
  rw [List.map_set, List.map_set]
theorem lexch_ev {r : List Nat} {i j : Nat} (hi : i < r.length) (hj : j < r.length) : m_law_exchanged [eR r, eN i, eN j] = some (eR (swapN r i j)) := by
  refine runD_rt (s := dummy) ?_
  unfold G__law_exchanged
  refine seq_s (asgo_ev (ynC_ev (ac_ev rfl an_ev) rfl)) ?_
  refine seq_s (asgG_ev (tup_ev (ac_ev (y2_ev rfl rfl (En.nat.ixT r j hj)) (ac_ev (y2_ev rfl rfl (En.nat.ixT r i hi)) an_ev)) (by show 2 ≤ lim; decide)) (tupG2_ev (sub_ev rfl rfl (by rw [List.length_map]; exact hi)) (sub_ev rfl rfl (by rw [List.length_set, List.length_map]; exact hj)))) ?_
  refine frz_s rfl (ret_ev (yC_ev (ac_ev rfl an_ev) ?_))
  unfold swapN
  rw [getD_lt hi, getD_lt hj]
  show some (PyData.tuple (((r.map eN).set i (eN r[j])).set j (eN r[i]))) = some (.tuple (((r.set i r[j]).set j r[i]).map eN))
  rw [List.map_set, List.map_set]
theorem swapped_ev {r : List Nat} {k : Nat} (hk : k + 1 < r.length) : m_swapped [eR r, eN k] = some (eR (swapN r k (k + 1))) := by
  refine runD_rt (s := dummy) ?_
  exact ret_ev (call_ev (ac_ev rfl (ac_ev rfl (ac_ev (y2_ev rfl rfl (add_N k 1)) an_ev))) rfl (exch_ev (by omega) hk))
/-! taken once, taken less -/
def once1 (r : List Nat) (k : Nat) : List Nat := if r.getD k 0 < r.getD (k + 1) 0 then swapN r k (k + 1) else r
def less1 (r : List Nat) (k : Nat) : List Nat := if r.getD (k + 1) 0 < r.getD k 0 then swapN r k (k + 1) else r
theorem swapN_len (r : List Nat) (i j : Nat) : (swapN r i j).length = r.length := by unfold swapN; rw [List.length_set, List.length_set]
theorem once1_len (r : List Nat) (k : Nat) : (once1 r k).length = r.length := by
  unfold once1
  split
  · exact swapN_len _ _ _
  · rfl
theorem less1_len (r : List Nat) (k : Nat) : (less1 r k).length = r.length := by
  unfold less1
  split
  · exact swapN_len _ _ _
  · rfl
theorem once_ev {n : Nat} (ks : List Nat) (hks : ∀ k ∈ ks, k + 1 < n) (r : List Nat) (hr : r.length = n) : m_taken_once [eR r, eR ks] = some (eR (ks.foldl once1 r)) := by
  refine runD_rt (s := dummy) ?_
  unfold G_taken_once
  refine fold_s (e := eN) (iy_ev rfl rfl) (fun b ρ => ∃ x y, ρ = [.fz (eR b), x, y] ∧ b.length = n) once1 r (fun b k ρ hk ⟨y, z, e, hb⟩ => ?_) ⟨_, _, rfl, hr⟩ fun ρ' ⟨x, y, e2, _⟩ => ?_
  · subst e
    have hk1 := hks k hk
    refine ⟨[.fz (eR (once1 b k)), y, .fz (eN k)], asg_ev (ifY_s (bT_ev (y2_ev (y2_ev rfl rfl (En.nat.ixT b k (by omega))) (y2_ev rfl (y2_ev rfl rfl (add_N k 1)) (En.nat.ixT b (k + 1) (by omega))) (lt_N _ _))) ?_), y, .fz (eN k), rfl, ?_⟩
    · unfold once1
      rw [getD_lt (by omega), getD_lt (by omega)]
      by_cases c : b[k] < b[k + 1]
      · rw [decide_eq_true c, if_pos rfl, if_pos c]
        exact call_ev (ac_ev rfl (ac_ev rfl an_ev)) rfl (swapped_ev (by omega))
      · rw [decide_eq_false c, if_neg Bool.false_ne_true, if_neg c]
        rfl
    · rw [once1_len, hb]
  · subst e2
    exact ret_ev rfl
theorem less_ev {n : Nat} (ks : List Nat) (hks : ∀ k ∈ ks, k + 1 < n) (r : List Nat) (hr : r.length = n) : m_taken_less [eR r, eR ks] = some (eR (ks.reverse.foldl less1 r)) := by
  refine runD_rt (s := dummy) ?_
  unfold G_taken_less
  refine fold_s (e := eN) (xs := ks.reverse) (s1 := dummy) (iy_ev (d := .tuple (ks.map eN).reverse) rfl (by rw [List.map_reverse]; rfl)) (fun b ρ => ∃ x y, ρ = [.fz (eR b), x, y] ∧ b.length = n) less1 r (fun b k ρ hk ⟨y, z, e, hb⟩ => ?_) ⟨_, _, rfl, hr⟩ fun ρ' ⟨x, y, e2, _⟩ => ?_
  · subst e
    have hk1 := hks k (List.mem_reverse.mp hk)
    refine ⟨[.fz (eR (less1 b k)), y, .fz (eN k)], asg_ev (ifY_s (bT_ev (y2_ev (y2_ev rfl rfl (En.nat.ixT b k (by omega))) (y2_ev rfl (y2_ev rfl rfl (add_N k 1)) (En.nat.ixT b (k + 1) (by omega))) (gt_N _ _))) ?_), y, .fz (eN k), rfl, ?_⟩
    · unfold less1
      rw [getD_lt (by omega), getD_lt (by omega)]
      by_cases c : b[k + 1] < b[k]
      · rw [decide_eq_true c, if_pos rfl, if_pos c]
        exact call_ev (ac_ev rfl (ac_ev rfl an_ev)) rfl (swapped_ev (by omega))
      · rw [decide_eq_false c, if_neg Bool.false_ne_true, if_neg c]
        rfl
    · rw [less1_len, hb]
  · subst e2
    exact ret_ev rfl
/-! below -/
def belowAt (u w : List Nat) (i : Nat) : Bool := ((sortN (u.take i)).zip (sortN (w.take i))).all fun p => !decide (p.2 < p.1)
def below (u w : List Nat) : Bool := (List.range (u.length - 1)).all fun i => belowAt u w (1 + i)
theorem below_ev (u w : List Nat) (hn : u.length ≤ 1000) : m_law_is_below [eR u, eR w] = some (.bool (below u w)) := by
  refine runD_rt (s := dummy) ?_
  unfold G__law_is_below
  refine all_s (xs := List.range (u.length - 1)) (e := fun i => eN (1 + i)) (ir2_ev (m := 1) rfl (yC_ev (ac_ev rfl an_ev) (En.nat.lenT u)) (by omega) (by omega)) (fun ρ => ∃ x y z, ρ = [.fz (eR u), .fz (eR w), x, y, z]) (fun i => belowAt u w (1 + i)) (.bool false) (fun i ρ hi ⟨x, y, z, e⟩ => ?_) ⟨_, _, _, rfl⟩ (fun hx ρ' ⟨x, y, z, e⟩ => ?_) (fun hx => ?_)
  · subst e
    have hi := List.mem_range.mp hi
    refine all_x (e := Prod.map eN eN) (xs := (sortN (u.take (1 + i))).zip (sortN (w.take (1 + i)))) ?_ (fun ρ => ∃ x y z, ρ = [.fz (eR u), .fz (eR w), x, y, z]) (fun p => !decide (p.2 < p.1)) (.bool false) (fun p ρ _ ⟨x, y, z, e⟩ => ?_) ⟨_, _, _, rfl⟩
    · rw [← List.zip_map]
      exact iz_ev (fr_ev (ynC_ev (ac_ev (sl_ev rfl rfl (oy_ev rfl) (sl_takeT En.nat u (1 + i))) an_ev) (sortC_T _))) (fr_ev (ynC_ev (ac_ev (sl_ev rfl rfl (oy_ev rfl) (sl_takeT En.nat w (1 + i))) an_ev) (sortC_T _)))
    · subst e
      refine ⟨_, rfl, fun h => ⟨[.fz (eR u), .fz (eR w), x, .fz (eN p.1), .fz (eN p.2)], if_s (bT_ev (y2_ev rfl rfl (gt_N p.1 p.2))) ?_, _, _, _, rfl⟩, fun h => if_s (bT_ev (y2_ev rfl rfl (gt_N p.1 p.2))) ?_⟩
      · rw [Bool.not_eq_true'] at h
        rw [h]
        rfl
      · rw [Bool.not_eq_false'] at h
        rw [h]
        rfl
  · subst e
    show _ = some (Fl.rt (.bool (below u w)), dummy)
    unfold below
    rw [hx]
    exact ret_ev rfl
  · unfold below
    rw [hx]
theorem idxT_N {r : List Nat} {k : Nat} (h : k ∈ r) : idxD (eR r) (eN k) = some (eN (r.idxOf k)) := by
  show (if (r.map eN).all scalD = true ∧ scalD (eN k) = true then mO (DL.idxL (eN k) (r.map eN) 0) fun j => some (PyData.int (j : Nat)) else none) = _
  rw [if_pos ⟨by rw [List.all_map, List.all_eq_true]; exact fun _ _ => rfl, rfl⟩, En.nat.idxL, if_pos h, Nat.zero_add]
  rfl
theorem idxL_N {r : List Nat} {k : Nat} (h : k ∈ r) : idxD (.list (r.map eN)) (eN k) = some (eN (r.idxOf k)) := by
  show (if SeqAt.shaped (.list (r.map eN)) = true ∧ SeqAt.shaped (eN k) = true then mO (DL.idxL (eN k) (r.map eN) 0) fun j => some (PyData.int (j : Nat)) else none) = _
  rw [if_pos ⟨(En.lst En.nat).shaped (by decide) r, En.nat.shaped (by decide) k⟩, En.nat.idxL, if_pos h, Nat.zero_add]
  rfl
def otherW (r : List Nat) : List Nat := (List.range r.length).map fun k => r.idxOf k
theorem other_ev (r : List Nat) (h : ∀ k < r.length, k ∈ r) (hn : r.length ≤ 1000) : m_law_other_way [eR r] = some (eR (otherW r)) := by
  refine runD_rt (s := dummy) ?_
  unfold G__law_other_way
  refine ret_ev (yC_ev (ac_ev (fr_ev (lcE_ev (xs := List.range r.length) (fun _ => true) (fun k => eN (r.idxOf k)) (ir1_ev (yC_ev (ac_ev rfl an_ev) (En.nat.lenT r)) (by omega)) (fun k hk => ⟨rfl, fun _ => y2_ev rfl rfl (idxT_N (h k (List.mem_range.mp hk)))⟩) (by rw [List.length_range]; show _ ≤ 100000; omega))) an_ev) ?_)
  rw [List.filter_eq_self.mpr fun _ _ => rfl]
  show some (PyData.tuple _) = some (PyData.tuple (((List.range r.length).map fun k => r.idxOf k).map eN))
  rw [List.map_map]
  rfl
def behind (one other : List Nat) : List Nat := other.map fun k => one.getD k 0
theorem behind_ev (one other : List Nat) (h : ∀ k ∈ other, k < one.length) (hn : other.length ≤ 1000) : m_law_behind [eR one, eR other] = some (eR (behind one other)) := by
  refine runD_rt (s := dummy) ?_
  unfold G__law_behind
  refine ret_ev (yC_ev (ac_ev (fr_ev (lcE_ev (e := eN) (xs := other) (fun _ => true) (fun k => eN (one.getD k 0)) (iy_ev rfl rfl) (fun k hk => ⟨rfl, fun _ => y2_ev rfl rfl (by rw [getD_lt (h k hk)]; exact En.nat.ixT one k (h k hk))⟩) (by show _ ≤ 100000; omega))) an_ev) ?_)
  rw [List.filter_eq_self.mpr fun _ _ => rfl]
  show some (PyData.tuple _) = some (PyData.tuple ((other.map fun k => one.getD k 0).map eN))
  rw [List.map_map]
  rfl
theorem sum_N (xs : List Nat) : sumC [.list (xs.map eN)] = some (eN xs.sum) := by
  show mO (intsD (xs.map eN)) (fun is => some (PyData.int is.sum)) = _
  rw [intsN]
  show some (PyData.int _) = some (PyData.int _)
  congr 2
  induction xs with
  | nil => rfl
  | cons x xs ih => rw [List.map_cons, List.sum_cons, List.sum_cons, ih, Int.natCast_add]
def lenW (r : List Nat) : Nat := ((List.range r.length).map fun k => ((r.drop (k + 1)).filter fun t => decide (t < r.getD k 0)).length).sum
theorem length_ev (r : List Nat) (hn : r.length ≤ 1000) : m_law_length [eR r] = some (eN (lenW r)) := by
  refine runD_rt (s := dummy) ?_
  unfold G__law_length
  refine ret_ev (yC_ev (ac_ev (fr_ev (lcE_ev (xs := List.range r.length) (fun _ => true) (fun k => eN ((r.drop (k + 1)).filter fun t => decide (t < r.getD k 0)).length) (ir1_ev (yC_ev (ac_ev rfl an_ev) (En.nat.lenT r)) (by omega)) (fun k hk => ⟨rfl, fun _ => ?_⟩) (by rw [List.length_range]; show _ ≤ 100000; omega))) an_ev) ?_)
  · have hk := List.mem_range.mp hk
    refine yC_ev (ac_ev (fr_ev (lcE_ev (e := eN) (xs := r.drop (k + 1)) (fun t => decide (t < r.getD k 0)) (fun t => eN t) (iy_ev (sl_ev rfl (oy_ev (y2_ev rfl rfl (add_N k 1))) rfl (sl_dropT En.nat r (k + 1))) rfl) (fun t ht => ⟨bT_ev (y2_ev rfl (y2_ev rfl rfl (En.nat.ixT r k hk)) ?_), fun _ => rfl⟩) (by rw [List.length_drop]; show _ ≤ 100000; omega))) an_ev) (En.nat.lenL _)
    rw [getD_lt hk]
    exact lt_N t r[k]
  · rw [List.filter_eq_self.mpr fun _ _ => rfl]
    have := sum_N ((List.range r.length).map fun k => ((r.drop (k + 1)).filter fun t => decide (t < r.getD k 0)).length)
    rw [List.map_map] at this
    exact this
/-! all rows, rows below -/
def allR (n : Nat) : List (List Nat) := (List.range n).foldl (fun found _ => found.flatMap fun row => ((List.range n).filter fun t => !decide (t ∈ row)).map fun t => row ++ [t]) [[]]
theorem allR_ev : ∀ n, 1 ≤ n → n ≤ 4 → m_law_all_rows [eN n] = some (eRs (allR n))
  | 1, _, _ => by kernel_rfl
  | 2, _, _ => by kernel_rfl
  | 3, _, _ => by kernel_rfl
  | 4, _, _ => by kernel_rfl
def rowsB (w : List Nat) : List (List Nat) := (allR w.length).filter fun row => below row w
theorem rowsB_ev (w : List Nat) (h1 : 1 ≤ w.length) (h4 : w.length ≤ 4) : m_law_rows_below [eR w] = some (eRs (rowsB w)) := by
  have hl : ∀ n, n < 5 → (allR n).length ≤ 24 ∧ ∀ r ∈ allR n, r.length = n := by decide +kernel
  obtain ⟨hl1, hl2⟩ := hl w.length (by omega)
  refine runD_rt (s := dummy) ?_
  unfold G__law_rows_below
  refine ret_ev (fr_ev (lcE_ev (e := eR) (xs := allR w.length) (fun row => below row w) eR (iy_ev (call_ev (ac_ev (yC_ev (ac_ev rfl an_ev) (En.nat.lenT w)) an_ev) rfl (allR_ev _ h1 h4)) rfl) (fun r hr => ⟨bT_ev (call_ev (ac_ev rfl (ac_ev rfl an_ev)) rfl (below_ev r w (by rw [hl2 r hr]; omega))), fun _ => rfl⟩) (by show _ ≤ 100000; omega)))

/-! ### the first word -/
def desc (h : List Nat) : List Nat := (List.range (h.length - 1)).filter fun k => decide (h.idxOf (k + 1) < h.idxOf k)
def turnAt (h : List Nat) (k : Nat) : List Nat := (h.set (h.idxOf k) (k + 1)).set (h.idxOf (k + 1)) k
def fwGo : Nat → List Nat → List Nat
  | 0, _ => []
  | f + 1, h => match desc h with
    | [] => []
    | k :: _ => k :: fwGo f (turnAt h k)
def phi (n : Nat) : Nat → List Nat → Nat
  | _, [] => 0
  | i, x :: xs => i * (n - x) + phi n (i + 1) xs
theorem phi_set (n v : Nat) : ∀ (xs : List Nat) (i p : Nat) (h : p < xs.length), phi n i (xs.set p v) + (i + p) * (n - xs[p]) = phi n i xs + (i + p) * (n - v)
  | [], _, _, h => absurd h (Nat.not_lt_zero _)
  | x :: xs, i, 0, _ => by
    rw [List.set_cons_zero]
    show i * (n - v) + phi n (i + 1) xs + (i + 0) * (n - x) = i * (n - x) + phi n (i + 1) xs + (i + 0) * (n - v)
    rw [show i + 0 = i from rfl]
    omega
  | x :: xs, i, p + 1, h => by
    rw [List.set_cons_succ]
    have hp : p < xs.length := by simpa using h
    have := phi_set n v xs (i + 1) p hp
    show i * (n - x) + phi n (i + 1) (xs.set p v) + (i + (p + 1)) * (n - xs[p]) = i * (n - x) + phi n (i + 1) xs + (i + (p + 1)) * (n - v)
    rw [show i + (p + 1) = i + 1 + p by omega]
    omega
theorem phi_le (n : Nat) : ∀ (xs : List Nat) (i : Nat), phi n i xs ≤ (i + xs.length) * n * xs.length
  | [], i => Nat.zero_le _
  | x :: xs, i => by
    have h1 := phi_le n xs (i + 1)
    show i * (n - x) + phi n (i + 1) xs ≤ (i + (xs.length + 1)) * n * (xs.length + 1)
    have h2 : i * (n - x) ≤ i * n := Nat.mul_le_mul_left _ (Nat.sub_le _ _)
    have h3 : i * n ≤ (i + (xs.length + 1)) * n := Nat.mul_le_mul_right _ (by omega)
    rw [Nat.mul_succ, show i + (xs.length + 1) = i + 1 + xs.length by omega]
    rw [show i + (xs.length + 1) = i + 1 + xs.length by omega] at h3
    omega
structure IsRow (n : Nat) (r : List Nat) : Prop where
  len : r.length = n
  mem : ∀ k, k < n → k ∈ r
  lt : ∀ k ∈ r, k < n
  nd : r.Nodup
theorem isRow_of_perm {n : Nat} {r : List Nat} (h : r.Perm (List.range n)) : IsRow n r :=
  ⟨by rw [h.length_eq, List.length_range], fun k hk => h.mem_iff.mpr (List.mem_range.mpr hk), fun k hk => List.mem_range.mp (h.mem_iff.mp hk), h.nodup_iff.mpr List.nodup_range⟩
theorem IsRow.perm {n : Nat} {r : List Nat} (h : IsRow n r) : r.Perm (List.range n) := by
  refine (List.perm_ext_iff_of_nodup h.nd List.nodup_range).mpr fun k => ?_
  rw [List.mem_range]
  exact ⟨h.lt k, h.mem k⟩
theorem get_set2 {r : List Nat} {i j a b : Nat} (hi : i < r.length) (hj : j < r.length) (m : Nat) (hm : m < r.length) : ((r.set i a).set j b)[m]'(by rw [List.length_set, List.length_set]; exact hm) = if m = j then b else if m = i then a else r[m] := by
  rw [List.getElem_set, List.getElem_set]
  by_cases h1 : m = j
  · rw [if_pos h1.symm, if_pos h1]
  · rw [if_neg (fun z => h1 z.symm), if_neg h1]
    by_cases h2 : m = i
    · rw [if_pos h2.symm, if_pos h2]
    · rw [if_neg (fun z => h2 z.symm), if_neg h2]
theorem swap_perm {r : List Nat} {i j : Nat} (hi : i < r.length) (hj : j < r.length) : ((r.set i r[j]).set j r[i]).Perm r := by
  rw [List.perm_iff_count]
  intro a
  have h1 := List.count_set (l := r) (a := r[j]) (b := a) hi
  have h2 := List.count_set (l := r.set i r[j]) (a := r[i]) (b := a) (i := j) (by rw [List.length_set]; exact hj)
  rw [h2, h1, List.getElem_set]
  have p1 : (r[i] == a) = true → 0 < r.count a := fun h => List.count_pos_iff.mpr (by rw [← eq_of_beq h]; exact List.getElem_mem hi)
  have p2 : (r[j] == a) = true → 0 < r.count a := fun h => List.count_pos_iff.mpr (by rw [← eq_of_beq h]; exact List.getElem_mem hj)
  by_cases hij : i = j
  · subst hij
    rw [if_pos rfl]
    by_cases c : (r[i] == a) = true
    · have := p1 c
      simp only [c, if_true]
      omega
    · simp only [c]
      simp
  · rw [if_neg hij]
    by_cases c1 : (r[i] == a) = true <;> by_cases c2 : (r[j] == a) = true
    · have := p1 c1
      simp only [c1, c2, if_true]
      omega
    · have := p1 c1
      simp only [c1, c2, if_true]
      simp
      omega
    · have := p2 c2
      simp only [c1, c2, if_true]
      simp
    · simp only [c1, c2]
      simp
theorem IsRow.swapN {n : Nat} {r : List Nat} (h : IsRow n r) {i j : Nat} (hi : i < n) (hj : j < n) : IsRow n (swapN r i j) := by
  have hi' : i < r.length := by rw [h.len]; exact hi
  have hj' : j < r.length := by rw [h.len]; exact hj
  refine isRow_of_perm (List.Perm.trans ?_ h.perm)
  unfold W81.swapN
  rw [getD_lt hi', getD_lt hj']
  exact swap_perm hi' hj'
theorem idx_get {r : List Nat} {k : Nat} (h : k ∈ r) : ∃ hl : r.idxOf k < r.length, r[r.idxOf k] = k := by
  have hl := List.idxOf_lt_length_iff.mpr h
  exact ⟨hl, List.getElem_idxOf hl⟩
theorem IsRow.turnAt {n : Nat} {r : List Nat} (h : IsRow n r) {k : Nat} (hk : k + 1 < n) : W81.turnAt r k = W81.swapN r (r.idxOf k) (r.idxOf (k + 1)) := by
  obtain ⟨l1, e1⟩ := idx_get (h.mem k (by omega))
  obtain ⟨l2, e2⟩ := idx_get (h.mem (k + 1) hk)
  unfold W81.turnAt W81.swapN
  rw [getD_lt l1, getD_lt l2, e1, e2]
theorem IsRow.turn {n : Nat} {r : List Nat} (h : IsRow n r) {k : Nat} (hk : k + 1 < n) : IsRow n (W81.turnAt r k) := by
  obtain ⟨l1, e1⟩ := idx_get (h.mem k (by omega))
  obtain ⟨l2, e2⟩ := idx_get (h.mem (k + 1) hk)
  rw [h.turnAt hk]
  exact h.swapN (by rw [← h.len]; exact l1) (by rw [← h.len]; exact l2)
theorem phi_turn {n : Nat} {r : List Nat} (h : IsRow n r) {k : Nat} (hk : k + 1 < n) (hd : r.idxOf (k + 1) < r.idxOf k) : phi n 0 (W81.turnAt r k) < phi n 0 r := by
  obtain ⟨l1, e1⟩ := idx_get (h.mem k (by omega))
  obtain ⟨l2, e2⟩ := idx_get (h.mem (k + 1) hk)
  unfold W81.turnAt
  have h1 := phi_set n (k + 1) r 0 (r.idxOf k) l1
  have h2 := phi_set n k (r.set (r.idxOf k) (k + 1)) 0 (r.idxOf (k + 1)) (by rw [List.length_set]; exact l2)
  rw [List.getElem_set, if_neg (by omega), e2] at h2
  rw [e1] at h1
  rw [Nat.zero_add] at h1 h2
  have e3 : n - k = (n - (k + 1)) + 1 := by omega
  rw [e3, Nat.mul_succ] at h1 h2
  omega
/-- no descent: the row in order -/
theorem sortN_of_sorted : ∀ (xs : List Nat), xs.Pairwise (· ≤ ·) → sortN xs = xs
  | [], _ => rfl
  | x :: xs, h => by
    have h1 := List.pairwise_cons.mp h
    show insN x (sortN xs) = x :: xs
    rw [sortN_of_sorted xs h1.2]
    cases xs with
    | nil => rfl
    | cons y ys =>
      unfold insN
      rw [if_pos (h1.1 y List.mem_cons_self)]
theorem sort_row {n : Nat} {r : List Nat} (h : IsRow n r) : sortN r = List.range n := by
  have hp := (sortN_perm r).trans h.perm
  exact hp.eq_of_pairwise (le := (· ≤ ·)) (fun a b _ _ h1 h2 => Nat.le_antisymm h1 h2) (sortN_sorted r) (List.pairwise_lt_range.imp Nat.le_of_lt)
theorem desc_nil {n : Nat} {r : List Nat} (h : IsRow n r) : desc r = [] ↔ r = List.range n := by
  constructor
  · intro hd
    have step : ∀ k, k + 1 < n → r.idxOf k < r.idxOf (k + 1) := fun k hk => by
      obtain ⟨l1, e1⟩ := idx_get (h.mem k (by omega))
      obtain ⟨l2, e2⟩ := idx_get (h.mem (k + 1) hk)
      have : k ∉ desc r := by rw [hd]; exact List.not_mem_nil
      unfold desc at this
      rw [List.mem_filter, List.mem_range, decide_eq_true_eq, h.len] at this
      have ne : r.idxOf k ≠ r.idxOf (k + 1) := fun z => by
        have : r[r.idxOf k] = r[r.idxOf (k + 1)] := by simp only [z]
        rw [e1, e2] at this
        omega
      omega
    have lo : ∀ k, k < n → k ≤ r.idxOf k := by
      intro k
      induction k with
      | zero => intro _; omega
      | succ k ih =>
        intro hk
        have := ih (by omega)
        have := step k hk
        omega
    have hi : ∀ d k, k + d + 1 = n → r.idxOf k ≤ k := by
      intro d
      induction d with
      | zero =>
        intro k hk
        obtain ⟨l1, _⟩ := idx_get (h.mem k (by omega))
        rw [h.len] at l1
        omega
      | succ d ih =>
        intro k hk
        have := ih (k + 1) (by omega)
        have := step k (by omega)
        omega
    refine List.ext_getElem (by rw [h.len, List.length_range]) fun k h1 h2 => ?_
    rw [List.getElem_range]
    rw [h.len] at h1
    obtain ⟨l1, e1⟩ := idx_get (h.mem k h1)
    have e : r.idxOf k = k := Nat.le_antisymm (hi (n - 1 - k) k (by omega)) (lo k h1)
    simp only [e] at e1
    exact e1
  · intro e
    unfold desc
    rw [List.filter_eq_nil_iff]
    intro k hk
    rw [List.mem_range, h.len] at hk
    rw [decide_eq_true_eq, e]
    have ix : ∀ m, m < n → (List.range n).idxOf m = m := fun m hm => by
      have hr : IsRow n (List.range n) := isRow_of_perm (.refl _)
      obtain ⟨l1, e1⟩ := idx_get (hr.mem m hm)
      rw [List.getElem_range] at e1
      exact e1
    rw [ix k (by omega), ix (k + 1) (by omega)]
    omega
def fw (r : List Nat) : List Nat := fwGo (r.length * r.length * r.length + 1) r

theorem first_ev {n : Nat} {r : List Nat} (h : IsRow n r) (hn : n ≤ 12) : m_first_word [eR r] = some (eR (fw r)) := by
  refine runD_rt (s := dummy) ?_
  unfold G_first_word
  refine seq_s (ρ1 := [.fz (eR r), .ow (r.map eN), .ow [], .un, .un, .un]) (s1 := dummy) rfl ?_
  have hcube : n * n * n ≤ 1728 := by
    have h1 : n * n ≤ 12 * 12 := Nat.mul_le_mul hn hn
    have h2 : n * n * n ≤ 12 * 12 * 12 := Nat.mul_le_mul h1 hn
    omega
  let I : Nat → Rho → Src → Prop := fun m ρ s => s = dummy ∧ ∃ here found x y z, ρ = [.fz (eR r), .ow (here.map eN), .ow (found.map eN), x, y, z] ∧ IsRow n here ∧ phi n 0 here ≤ m ∧ found ++ fwGo (m + 1) here = fw r ∧ found.length + m = n * n * n
  let Post : Fl → Src → Prop := fun fl s => s = dummy ∧ ∃ x y z w, fl = .nx [.fz (eR r), x, .ow ((fw r).map eN), y, z, w]
  have L := whGo_rel (c := (bT (vwY (y2 neD (varY 1) (frY (ynC sortC (aCons (varY 1) aNil))))))) (G := (seqS (asgS 3 (fzU (y2 ixD (frY (lcY (iR1 (vwY (y2 subD (yC lenC (aCons (varY 1) aNil)) (cY (.int 1))))) (bN 3) (bT (vwY (y2 gtD (y2 idxD (varY 1) (varY 3)) (y2 idxD (varY 1) (y2 addD (varY 3) (cY (.int 1))))))) (varY 3) [3])) (cY (.int 0)))))
      (seqS (parS 4 5 (fzU (vwY (y2 idxD (varY 1) (varY 3)))) (fzU (vwY (y2 idxD (varY 1) (y2 addD (varY 3) (cY (.int 1)))))))
      (seqS (asgGS (tupY (aCons (y2 addD (varY 3) (cY (.int 1))) (aCons (varY 3) aNil))) (tupG 2 (consGs (subG 1 (varY 4)) (consGs (subG 1 (varY 5)) nilGs))))
      (appS 2 (varY 3)))))) I Post ?_ (n * n * n) (fuel + dummy.cells.length) [.fz (eR r), .ow (r.map eN), .ow [], .un, .un, .un] dummy (by unfold fuel; omega)
      ⟨rfl, r, [], _, _, _, rfl, h, ?_, ?_, by simp⟩
  · obtain ⟨fl, s', e1, e2, x, y, z, w, e3⟩ := L
    subst e2 e3
    refine seq_s e1 (frz_s rfl (ret_ev (yC_ev (ac_ev rfl an_ev) rfl)))
  · rintro m ρ s ⟨rfl, here, found, x, y, z, rfl, hr, hp, hf, hl⟩
    have ec : ∀ b, (!decide (here = sortN here)) = b → (bT (vwY (y2 neD (varY 1) (frY (ynC sortC (aCons (varY 1) aNil)))))) [.fz (eR r), .ow (here.map eN), .ow (found.map eN), x, y, z] dummy = some (b, dummy) := fun b hb => by
      rw [← hb]
      exact bT_ev (vw_ev (y2_ev rfl (fr_ev (ynC_ev (ac_ev rfl an_ev) (sortC_N here))) ((En.lst En.nat).neD (by decide) here (sortN here))) rfl)
    by_cases hs : here = sortN here
    · refine .inl ⟨dummy, ec false (by rw [decide_eq_true hs]; rfl), rfl, .ow (here.map eN), x, y, z, ?_⟩
      have hd : desc here = [] := (desc_nil hr).mpr (hs.trans (sort_row hr))
      rw [← hf]
      unfold fwGo
      rw [hd, List.append_nil]
    · have hd : desc here ≠ [] := fun z => hs (by rw [sort_row hr]; exact (desc_nil hr).mp z)
      refine .inr ⟨dummy, ec true (by rw [decide_eq_false hs]; rfl), ?_⟩
      have hn0 : 1 ≤ here.length := by
        cases hh : here with
        | nil => rw [hh] at hs; exact absurd rfl hs
        | cons _ _ => simp
      cases hdd : desc here with
      | nil => exact absurd hdd hd
      | cons k ks =>
      have hk : k ∈ desc here := by rw [hdd]; exact List.mem_cons_self
      unfold desc at hk
      rw [List.mem_filter, List.mem_range, decide_eq_true_eq, hr.len] at hk
      obtain ⟨hk1, hk2⟩ := hk
      have hk3 : k + 1 < n := by omega
      obtain ⟨l1, e1⟩ := idx_get (hr.mem k (by omega))
      obtain ⟨l2, e2⟩ := idx_get (hr.mem (k + 1) hk3)
      have hphi := phi_turn hr hk3 hk2
      refine ⟨.nx [.fz (eR r), .ow ((turnAt here k).map eN), .ow ((found ++ [k]).map eN), .fz (eN k), .fz (eN (here.idxOf k)), .fz (eN (here.idxOf (k + 1)))], dummy, ?_, m - 1, by omega, rfl, turnAt here k, found ++ [k], _, _, _, rfl, hr.turn hk3, by omega, ?_, ?_⟩
      · refine seq_s (asg_ev (y2_ev (fr_ev (lcE_ev (e := eN) (xs := List.range (here.length - 1)) (fun k => decide (here.idxOf (k + 1) < here.idxOf k)) (fun k => eN k) (ir1_ev (vw_ev (y2_ev (yC_ev (ac_ev rfl an_ev) (En.nat.lenL here)) rfl (sub_N hn0)) rfl) (by rw [hr.len]; omega)) (fun j hj => ?_) (by rw [List.length_range, hr.len]; show _ ≤ 100000; omega))) rfl (?_ : _ = some (eN k)))) ?_
        · rw [List.mem_range, hr.len] at hj
          exact ⟨bT_ev (vw_ev (y2_ev (y2_ev rfl rfl (idxL_N (hr.mem j (by omega)))) (y2_ev rfl (y2_ev rfl rfl (add_N j 1)) (idxL_N (hr.mem (j + 1) (by omega)))) (gt_N _ _)) rfl), fun _ => rfl⟩
        · show ixD (.list ((desc here).map eN)) (eN 0) = _
          rw [hdd]
          exact En.nat.ixL (k :: ks) 0 (by simp)
        · refine seq_s (par_ev (vw_ev (y2_ev rfl rfl (idxL_N (hr.mem k (by omega)))) rfl) (vw_ev (y2_ev rfl (y2_ev rfl rfl (add_N k 1)) (idxL_N (hr.mem (k + 1) hk3))) rfl)) ?_
          refine seq_s (asgG_ev (tup_ev (ac_ev (y2_ev rfl rfl (add_N k 1)) (ac_ev rfl an_ev)) (by show 2 ≤ lim; decide)) (tupG2_ev (sub_ev rfl rfl (by rw [List.length_map]; exact l1)) (sub_ev rfl rfl (by rw [List.length_set, List.length_map]; exact l2)))) ?_
          refine (app_ev rfl rfl (by rw [List.length_map]; show _ < 100000; omega)).trans ?_
          unfold turnAt
          rw [List.map_append, List.map_set, List.map_set]
          rfl
      · rw [← hf, List.append_assoc]
        refine congrArg (found ++ ·) ?_
        have : fwGo (m + 1) here = k :: fwGo m (turnAt here k) := by
          show (match desc here with | [] => [] | k :: _ => k :: fwGo m (turnAt here k)) = _
          rw [hdd]
        rw [this, show m - 1 + 1 = m by omega]
        rfl
      · rw [List.length_append, List.length_singleton]
        omega
  · have := phi_le n r 0
    rw [h.len, Nat.zero_add] at this
    exact this
  · unfold fw
    rw [h.len]
    rfl
theorem fwGo_lt {n : Nat} : ∀ (f : Nat) (r : List Nat), r.length = n → ∀ k ∈ fwGo f r, k + 1 < n
  | 0, _, _, k, h => by cases h
  | f + 1, r, hr, k, h => by
    unfold fwGo at h
    split at h
    · cases h
    · rename_i j js e
      rcases List.mem_cons.mp h with rfl | h
      · have : k ∈ desc r := by rw [e]; exact List.mem_cons_self
        unfold desc at this
        rw [List.mem_filter, List.mem_range, hr] at this
        omega
      · exact fwGo_lt f (turnAt r j) (by unfold turnAt; rw [List.length_set, List.length_set, hr]) k h
theorem fw_lt {n : Nat} {r : List Nat} (hr : r.length = n) : ∀ k ∈ fw r, k + 1 < n := fwGo_lt _ r hr
def onceW (u w : List Nat) : List Nat := (fw w).foldl once1 u
def lessW (u w : List Nat) : List Nat := (fw w).reverse.foldl less1 u
theorem m_once_ev {n : Nat} {u w : List Nat} (hu : u.length = n) (hw : IsRow n w) (hn : n ≤ 12) : m_once [eR u, eR w] = some (eR (onceW u w)) := by
  refine runD_rt (s := dummy) ?_
  exact ret_ev (call_ev (ac_ev rfl (ac_ev (call_ev (ac_ev rfl an_ev) rfl (first_ev hw hn)) an_ev)) rfl (once_ev (fw w) (fw_lt hw.len) u hu))
theorem m_less_ev {n : Nat} {u w : List Nat} (hu : u.length = n) (hw : IsRow n w) (hn : n ≤ 12) : m_less [eR u, eR w] = some (eR (lessW u w)) := by
  refine runD_rt (s := dummy) ?_
  exact ret_ev (call_ev (ac_ev rfl (ac_ev (call_ev (ac_ev rfl an_ev) rfl (first_ev hw hn)) an_ev)) rfl (less_ev (fw w) (fw_lt hw.len) u hu))
theorem IsRow.once1 {n : Nat} {r : List Nat} (h : IsRow n r) {k : Nat} (hk : k + 1 < n) : IsRow n (W81.once1 r k) := by
  unfold W81.once1
  split
  · exact h.swapN (by omega) hk
  · exact h
theorem IsRow.less1 {n : Nat} {r : List Nat} (h : IsRow n r) {k : Nat} (hk : k + 1 < n) : IsRow n (W81.less1 r k) := by
  unfold W81.less1
  split
  · exact h.swapN (by omega) hk
  · exact h
theorem foldl_row {n : Nat} {f : List Nat → Nat → List Nat} (hf : ∀ r k, IsRow n r → k + 1 < n → IsRow n (f r k)) : ∀ (ks : List Nat) (r : List Nat), (∀ k ∈ ks, k + 1 < n) → IsRow n r → IsRow n (ks.foldl f r)
  | [], _, _, h => h
  | k :: ks, r, hk, h => foldl_row hf ks (f r k) (fun j hj => hk j (List.mem_cons_of_mem _ hj)) (hf r k h (hk k List.mem_cons_self))
theorem IsRow.onceW {n : Nat} {u w : List Nat} (hu : IsRow n u) (hw : IsRow n w) : IsRow n (W81.onceW u w) := foldl_row (fun _ _ h hk => h.once1 hk) _ _ (fw_lt hw.len) hu
theorem IsRow.lessW {n : Nat} {u w : List Nat} (hu : IsRow n u) (hw : IsRow n w) : IsRow n (W81.lessW u w) := foldl_row (fun _ _ h hk => h.less1 hk) _ _ (fun k hk => fw_lt hw.len k (List.mem_reverse.mp hk)) hu

/-! ### draws -/
theorem row_ev {n : Nat} (hn : n ≤ 12) (s : Src) : ∃ r s', IsRow n r ∧ m_law_row [eN n] s = some (eR r, s') := by
  obtain ⟨r, s', h1, h2⟩ := mix_ev (f := eN) (List.range n) s (by rw [List.length_range]; omega)
  refine ⟨r, s', isRow_of_perm h1, runY_rt ?_⟩
  unfold G__law_row
  have e : ynR (rg1 (varY 1)) [.sr, .fz (eN n)] s = some ((List.range n).map eN, s) := by
    show (if rgOk 0 (n : Int) = true then some (rgD 0 (n : Int), s) else none) = _
    have h0 : rgOk 0 (n : Int) = true := rgOkN (a := 0) (by omega) (by omega)
    rw [if_pos h0, rgN0]
  exact ret_ev (yC_ev (ac_ev (draw_ev rfl (ac_ev (fr_ev e) an_ev) rfl h2) an_ev) rfl)
theorem trange_ev {n : Nat} (hn : n ≤ 12) {g : Y} {ρ : Rho} {s s1 : Src} (h : g ρ s = some (eN n, s1)) : yR (rg1 g) ρ s = some (eR (List.range n), s1) := by
  unfold yR rg1
  rw [h]
  show (if rgOk 0 (n : Int) = true then some (PyData.tuple (rgD 0 (n : Int)), s1) else none) = _
  have h0 : rgOk 0 (n : Int) = true := rgOkN (a := 0) (by omega) (by omega)
  rw [if_pos h0, rgN0]
  rfl
abbrev Stp := (Nat × Nat) × List Nat
abbrev eS : Stp → D := ((En.nat.pair En.nat).pair (En.tup En.nat)).f
theorem steps_ev {n : Nat} {u : List Nat} (hu : IsRow n u) (hn : n ≤ 12) : ∃ items : List Stp, (∀ it ∈ items, IsRow n it.2) ∧ items.length ≤ 144 ∧ m_law_steps [eR u] = some (.list (items.map eS)) := by
  let I : Nat → Rho → Src → Prop := fun i ρ s => s = dummy ∧ ∃ (b : List Stp) (x y z : Sl), ρ = [.fz (eR u), .ow (b.map eS), x, y, z] ∧ (∀ it ∈ b, IsRow n it.2) ∧ b.length ≤ i * n
  have L := rel_x (fi := iR1 (yC lenC (aCons (varY 0) aNil))) (bind := bN 2) (G := (forS (iR2 (y2 addD (varY 2) (cY (.int 1))) (yC lenC (aCons (varY 0) aNil))) (bN 3)
        (ifS (andT (bT (y2 ltD (y2 ixD (varY 0) (varY 2)) (y2 ixD (varY 0) (varY 3)))) (bT (y2 eqD (frY (lcY (iY (slY slD (varY 0) (oYes (y2 addD (varY 2) (cY (.int 1)))) (oYes (varY 3)))) (bN 4) (bT (chY ltD ltD (y2 ixD (varY 0) (varY 2)) (varY 4) (y2 ixD (varY 0) (varY 3)))) (varY 4) [4])) (frY (lstY aNil)))))
        (appS 1 (tupY (aCons (tupY (aCons (varY 2) (aCons (varY 3) aNil))) (aCons (callY 3 m_law_exchanged (aCons (varY 0) (aCons (varY 2) (aCons (varY 3) aNil)))) aNil))))
        nxS))) (ρ := [.fz (eR u), .ow [], .un, .un, .un]) (s := dummy) (ir1_ev (yC_ev (ac_ev rfl an_ev) (En.nat.lenT u)) (by rw [hu.len]; omega)) I (fun i x ρ s hx hi => ?_) ⟨rfl, [], _, _, _, rfl, fun _ h => (nomatch h), by simp⟩
  · obtain ⟨ρ2, s2, e1, e2, b, x, y, z, e3, hb, hl⟩ := L
    subst e2 e3
    refine ⟨b, hb, ?_, runD_rt (s := dummy) (seq_s (ρ1 := [.fz (eR u), .ow [], .un, .un, .un]) (s1 := dummy) rfl (seq_s e1 (frz_s rfl (ret_ev rfl))))⟩
    rw [List.length_map, List.length_range, hu.len] at hl
    have : n * n ≤ 12 * 12 := Nat.mul_le_mul hn hn
    omega
  · obtain ⟨rfl, b, y, z, w, rfl, hb, hl⟩ := hi
    rw [List.getElem?_map] at hx
    have hin : i < n := by
      by_cases hh : i < n
      · exact hh
      · rw [List.getElem?_eq_none (by rw [List.length_range, hu.len]; omega)] at hx
        cases hx
    rw [List.getElem?_range (by rw [hu.len]; exact hin)] at hx
    cases hx
    let J : Nat → Rho → Src → Prop := fun j ρ s => s = dummy ∧ ∃ (b : List Stp) (x y : Sl), ρ = [.fz (eR u), .ow (b.map eS), .fz (eN i), x, y] ∧ (∀ it ∈ b, IsRow n it.2) ∧ b.length ≤ i * n + j
    have L := rel_x (fi := (iR2 (y2 addD (varY 2) (cY (.int 1))) (yC lenC (aCons (varY 0) aNil)))) (bind := bN 3) (G := (ifS (andT (bT (y2 ltD (y2 ixD (varY 0) (varY 2)) (y2 ixD (varY 0) (varY 3)))) (bT (y2 eqD (frY (lcY (iY (slY slD (varY 0) (oYes (y2 addD (varY 2) (cY (.int 1)))) (oYes (varY 3)))) (bN 4) (bT (chY ltD ltD (y2 ixD (varY 0) (varY 2)) (varY 4) (y2 ixD (varY 0) (varY 3)))) (varY 4) [4])) (frY (lstY aNil)))))
        (appS 1 (tupY (aCons (tupY (aCons (varY 2) (aCons (varY 3) aNil))) (aCons (callY 3 m_law_exchanged (aCons (varY 0) (aCons (varY 2) (aCons (varY 3) aNil)))) aNil))))
        nxS)) (ρ := [.fz (eR u), .ow (b.map eS), .fz (eN i), z, w]) (s := dummy) (ir2_ev (m := i + 1) (y2_ev rfl rfl (add_N i 1)) (yC_ev (ac_ev rfl an_ev) (En.nat.lenT u)) (by omega) (by rw [hu.len]; omega)) J (fun j x ρ s hx hi => ?_) ⟨rfl, b, _, _, rfl, hb, hl⟩
    · obtain ⟨ρ2, s2, e1, e2, b, x, y, e3, hb, hl⟩ := L
      subst e2 e3
      refine ⟨_, _, _, rfl, e1, rfl, b, _, _, _, rfl, hb, ?_⟩
      rw [List.length_map, List.length_range, hu.len] at hl
      rw [Nat.succ_mul]
      omega
    · obtain ⟨rfl, b, y, z, rfl, hb, hl⟩ := hi
      rw [List.getElem?_map] at hx
      have hjn : j < n - (i + 1) := by
        by_cases hh : j < n - (i + 1)
        · exact hh
        · rw [List.getElem?_eq_none (by rw [List.length_range, hu.len]; omega)] at hx
          cases hx
      rw [List.getElem?_range (by rw [hu.len]; exact hjn)] at hx
      cases hx
      have hj2 : i + 1 + j < n := by omega
      have hnn : i * n ≤ 12 * 12 := Nat.mul_le_mul (by omega) hn
      have h1 := En.nat.ixT u i (by rw [hu.len]; exact hin)
      have h2 := En.nat.ixT u (i + 1 + j) (by rw [hu.len]; exact hj2)
      have eC : ∀ z, lcY (iY (slY slD (varY 0) (oYes (y2 addD (varY 2) (cY (.int 1)))) (oYes (varY 3)))) (bN 4) (bT (chY ltD ltD (y2 ixD (varY 0) (varY 2)) (varY 4) (y2 ixD (varY 0) (varY 3)))) (varY 4) [4] [.fz (eR u), .ow (b.map eS), .fz (eN i), .fz (eN (i + 1 + j)), z] dummy
          = some ((((u.drop (i + 1)).take (i + 1 + j - (i + 1))).filter fun t => decide (u[i]'(by rw [hu.len]; exact hin) < t) && decide (t < u[i + 1 + j]'(by rw [hu.len]; exact hj2))).map eN, dummy) := fun z => by
        refine lcE_ev (e := eN) (xs := (u.drop (i + 1)).take (i + 1 + j - (i + 1))) _ (fun t => eN t) (iy_ev (sl_ev rfl (oy_ev (y2_ev rfl rfl (add_N i 1))) (oy_ev rfl) (sl_midT En.nat u (i + 1) (i + 1 + j) (by rw [hu.len]; omega))) rfl) (fun t ht => ⟨bT_ev ?_, fun _ => rfl⟩) (by rw [List.length_take, List.length_drop, hu.len]; show _ ≤ 100000; omega)
        exact ch_ev (y2_ev rfl rfl h1) rfl (lt_N _ _) (fun _ => ⟨y2_ev rfl rfl h2, lt_N _ _⟩) (fun _ => rfl)
      have eT : (andT (bT (y2 ltD (y2 ixD (varY 0) (varY 2)) (y2 ixD (varY 0) (varY 3)))) (bT (y2 eqD (frY (lcY (iY (slY slD (varY 0) (oYes (y2 addD (varY 2) (cY (.int 1)))) (oYes (varY 3)))) (bN 4) (bT (chY ltD ltD (y2 ixD (varY 0) (varY 2)) (varY 4) (y2 ixD (varY 0) (varY 3)))) (varY 4) [4])) (frY (lstY aNil))))) [.fz (eR u), .ow (b.map eS), .fz (eN i), .fz (eN (i + 1 + j)), z] dummy = some (_, dummy) :=
        and_ev (bT_ev (y2_ev (y2_ev rfl rfl h1) (y2_ev rfl rfl h2) (lt_N _ _))) (fun _ => bT_ev (y2_ev (fr_ev (eC z)) (fr_ev rfl) ((En.lst En.nat).eqD (by decide) _ []))) (fun _ => rfl)
      have eI := if_ev (a := (appS 1 (tupY (aCons (tupY (aCons (varY 2) (aCons (varY 3) aNil))) (aCons (callY 3 m_law_exchanged (aCons (varY 0) (aCons (varY 2) (aCons (varY 3) aNil)))) aNil))))) (b := nxS) eT
      refine ⟨[.fz (eR u), .ow (b.map eS), .fz (eN i), .fz (eN (i + 1 + j)), z], ?_⟩
      split at eI
      · refine ⟨[.fz (eR u), .ow ((b ++ [((i, i + 1 + j), swapN u i (i + 1 + j))]).map eS), .fz (eN i), .fz (eN (i + 1 + j)), z], dummy, rfl, eI.trans ((app_ev (tup_ev (ac_ev (tup_ev (ac_ev rfl (ac_ev rfl an_ev)) (by show 2 ≤ lim; decide)) (ac_ev (call_ev (ac_ev rfl (ac_ev rfl (ac_ev rfl an_ev))) rfl (lexch_ev (by rw [hu.len]; exact hin) (by rw [hu.len]; exact hj2))) an_ev)) (by show 2 ≤ lim; decide)) rfl (by rw [List.length_map]; show _ < 100000; omega)).trans ?_), rfl, _, _, _, rfl, ?_, ?_⟩
        · rw [List.map_append]
          rfl
        · intro it hit
          rcases List.mem_append.mp hit with hit | hit
          · exact hb it hit
          · rw [List.mem_singleton.mp hit]
            exact hu.swapN hin hj2
        · rw [List.length_append, List.length_singleton]
          omega
      · exact ⟨_, dummy, rfl, eI, rfl, b, _, _, rfl, hb, by omega⟩
theorem of_ev {α : Type} {e : α → D} {xs : List α} (h0 : xs ≠ []) (hl : xs.length < 1000000) (s : Src) : ∃ x ∈ xs, ∃ s', m_law_of [.list (xs.map e)] s = some (e x, s') := by
  have hp := List.length_pos_iff.mpr h0
  obtain ⟨k, s', hk, hpk⟩ := pick_ev hp hl s
  refine ⟨xs[k], List.getElem_mem hk, s', runY_rt ?_⟩
  unfold G__law_of
  have e1 : yC lenC (aCons (varY 1) aNil) [.sr, .fz (.list (xs.map e))] s = some (eN xs.length, s) := by
    show some (PyData.int ((xs.map e).length : Nat), s) = _
    rw [List.length_map]
    rfl
  refine ret_ev (y2_ev rfl (draw_ev rfl (ac_ev e1 an_ev) rfl hpk) ?_)
  show atI (xs.map e) (k : Int) = _
  unfold atI
  rw [List.length_map, ixN_nat hk, Option.bind_some, List.getElem?_map, List.getElem?_eq_getElem hk]
  rfl
theorem raised_ev {n : Nat} {u : List Nat} (hu : IsRow n u) (hn : n ≤ 12) (s : Src) : ∃ r s', IsRow n r ∧ m_law_raised [eR u, eN 2] s = some (eR r, s') := by
  obtain ⟨k, s1, hk, hpk⟩ := pick_ev (n := 3) (by decide) (by decide) s
  let I : Nat → Rho → Src → Prop := fun _ ρ _ => ∃ r x y, ρ = [.sr, .fz (eR r), .fz (eN 2), x, y] ∧ IsRow n r
  have L := rel_s (fi := iR1 (drawY 0 1 pickM (aCons (y2 addD (varY 2) (cY (.int 1))) aNil))) (bind := bN 3) (G := (seqS (asgS 4 (fzU (callY 1 m_law_steps (aCons (varY 1) aNil))))
      (asgS 1 (fzU (ifY (bT (y2 neD (varY 4) (frY (lstY aNil)))) (y2 ixD (drawY 0 1 m_law_of (aCons (varY 4) aNil)) (cY (.int 1))) (varY 1)))))) (rest := retS (varY 1)) (ρ := [.sr, .fz (eR u), .fz (eN 2), .un, .un]) (s := s)
      (ir1_ev (draw_ev rfl (ac_ev (y2_ev rfl rfl (add_N 2 1)) an_ev) rfl hpk) (by omega)) I (fun fl s => ∃ r, IsRow n r ∧ fl = .rt (eR r)) (fun i x ρ s _ hi => ?_) ⟨u, _, _, rfl, hu⟩ (fun ρ s hi => ?_)
  · obtain ⟨fl, s2, e1, r, hr, rfl⟩ := L
    exact ⟨r, s2, hr, runY_rt e1⟩
  · obtain ⟨r, y, z, rfl, hr⟩ := hi
    obtain ⟨items, h1, h2, h3⟩ := steps_ev hr hn
    have e1 : asgS 4 (fzU (callY 1 m_law_steps (aCons (varY 1) aNil))) [.sr, .fz (eR r), .fz (eN 2), .fz x, z] s = some (.nx [.sr, .fz (eR r), .fz (eN 2), .fz x, .fz (.list (items.map eS))], s) := asg_ev (call_ev (ac_ev rfl an_ev) rfl h3)
    have e2 : bT (y2 neD (varY 4) (frY (lstY aNil))) [.sr, .fz (eR r), .fz (eN 2), .fz x, .fz (.list (items.map eS))] s = some (!decide (items = []), s) :=
      bT_ev (y2_ev rfl (fr_ev rfl) (((En.nat.pair En.nat).pair (En.tup En.nat)).lst.neD (by decide) items []))
    by_cases h0 : items = []
    · rw [decide_eq_true h0] at e2
      exact ⟨_, .nx [.sr, .fz (eR r), .fz (eN 2), .fz x, .fz (.list (items.map eS))], s, rfl, seq_s e1 (asg_ev (ifY_s e2 rfl)), r, _, _, rfl, hr⟩
    · rw [decide_eq_false h0] at e2
      obtain ⟨it, hit, s3, e3⟩ := of_ev (e := eS) h0 (by omega) s
      exact ⟨_, .nx [.sr, .fz (eR it.2), .fz (eN 2), .fz x, .fz (.list (items.map eS))], s3, rfl, seq_s e1 (asg_ev (ifY_s e2 (y2_ev (draw_ev rfl (ac_ev rfl an_ev) rfl e3) rfl rfl))), it.2, _, _, rfl, h1 it hit⟩
  · obtain ⟨r, y, z, rfl, hr⟩ := hi
    exact ⟨_, s, ret_ev rfl, r, hr, rfl⟩

/-! ### below, by counts -/
def cge (t : Nat) (xs : List Nat) : Nat := xs.countP fun x => decide (t ≤ x)
theorem cge_nil (t : Nat) : cge t [] = 0 := rfl
theorem cge_cons (t x : Nat) (xs : List Nat) : cge t (x :: xs) = cge t xs + if t ≤ x then 1 else 0 := by
  unfold cge
  rw [List.countP_cons]
  by_cases h : t ≤ x <;> simp [h]
theorem cge_app (t : Nat) (xs ys : List Nat) : cge t (xs ++ ys) = cge t xs + cge t ys := List.countP_append
theorem cge_le (t : Nat) (xs : List Nat) : cge t xs ≤ xs.length := List.countP_le_length
theorem cge_all {t : Nat} : ∀ {xs : List Nat}, (∀ x ∈ xs, t ≤ x) → cge t xs = xs.length
  | [], _ => rfl
  | x :: xs, h => by
    rw [cge_cons, cge_all (fun y hy => h y (List.mem_cons_of_mem _ hy)), if_pos (h x List.mem_cons_self)]
    rfl
theorem all_of_cge {t : Nat} : ∀ {xs : List Nat}, xs.length ≤ cge t xs → ∀ x ∈ xs, t ≤ x
  | [], _, x, h => by cases h
  | y :: ys, hl, x, h => by
    rw [cge_cons, List.length_cons] at hl
    have := cge_le t ys
    split at hl
    · rename_i hy
      rcases List.mem_cons.mp h with rfl | h
      · exact hy
      · exact all_of_cge (by omega) x h
    · omega
theorem zip_cge : ∀ (A B : List Nat), A.length = B.length → A.Pairwise (· ≤ ·) → B.Pairwise (· ≤ ·) → ((A.zip B).all (fun p => !decide (p.2 < p.1)) = true ↔ ∀ t, cge t A ≤ cge t B)
  | [], [], _, _, _ => by simp [cge]
  | [], _ :: _, h, _, _ => by cases h
  | _ :: _, [], h, _, _ => by cases h
  | a :: A, b :: B, hl, ha, hb => by
    have hl' : A.length = B.length := by simpa using hl
    have ha' := List.pairwise_cons.mp ha
    have hb' := List.pairwise_cons.mp hb
    have ih := zip_cge A B hl' ha'.2 hb'.2
    rw [List.zip_cons_cons, List.all_cons, Bool.and_eq_true, ih]
    simp only [Bool.not_eq_true', decide_eq_false_iff_not]
    constructor
    · rintro ⟨h1, h2⟩ t
      have := h2 t
      rw [cge_cons, cge_cons]
      by_cases c1 : t ≤ a <;> by_cases c2 : t ≤ b <;> simp only [c1, c2, if_true, if_false] <;> omega
    · intro h
      have allA : ∀ t, t ≤ a → cge t A = A.length := fun t ht => cge_all fun x hx => Nat.le_trans ht (ha'.1 x hx)
      have allB : ∀ t, t ≤ b → cge t B = B.length := fun t ht => cge_all fun x hx => Nat.le_trans ht (hb'.1 x hx)
      have h0 := h a
      rw [cge_cons, cge_cons, allA a (Nat.le_refl _), if_pos (Nat.le_refl _)] at h0
      have hB := cge_le a B
      have hab : a ≤ b := by
        by_cases c : a ≤ b
        · exact c
        · rw [if_neg c] at h0
          omega
      refine ⟨by omega, fun t => ?_⟩
      have ht := h t
      rw [cge_cons, cge_cons] at ht
      by_cases c2 : t ≤ b
      · rw [allB t c2, ← hl']
        exact cge_le t A
      · rw [if_neg c2, if_neg (by omega)] at ht
        omega
theorem cge_sort (t : Nat) (xs : List Nat) : cge t (sortN xs) = cge t xs := (sortN_perm xs).countP_eq _
theorem belowAt_iff (u w : List Nat) (i : Nat) (h : u.length = w.length) : belowAt u w i = true ↔ ∀ t, cge t (u.take i) ≤ cge t (w.take i) := by
  unfold belowAt
  rw [zip_cge _ _ (by rw [(sortN_perm _).length_eq, (sortN_perm _).length_eq, List.length_take, List.length_take, h]) (sortN_sorted _) (sortN_sorted _)]
  exact ⟨fun z t => by have := z t; rw [cge_sort, cge_sort] at this; exact this, fun z t => by rw [cge_sort, cge_sort]; exact z t⟩
def Bel (n : Nat) (u w : List Nat) : Prop := ∀ i, i ≤ n → ∀ t, cge t (u.take i) ≤ cge t (w.take i)
theorem below_iff {n : Nat} {u w : List Nat} (hu : IsRow n u) (hw : IsRow n w) : below u w = true ↔ Bel n u w := by
  unfold below
  rw [List.all_eq_true]
  constructor
  · intro h i hi t
    by_cases h0 : i = 0
    · subst h0
      exact Nat.le_refl _
    · by_cases hn : i = n
      · rw [List.take_of_length_le (by rw [hu.len]; omega), List.take_of_length_le (by rw [hw.len]; omega)]
        exact Nat.le_of_eq ((hu.perm.trans hw.perm.symm).countP_eq _)
      · have := h (i - 1) (List.mem_range.mpr (by rw [hu.len]; omega))
        rw [belowAt_iff _ _ _ (by rw [hu.len, hw.len]), show 1 + (i - 1) = i by omega] at this
        exact this t
  · intro h i hi
    rw [List.mem_range, hu.len] at hi
    rw [belowAt_iff _ _ _ (by rw [hu.len, hw.len])]
    exact h (1 + i) (by omega)
/-! ### one letter -/
theorem cut2 {n k : Nat} {u : List Nat} (h : u.length = n) (hk : k + 1 < n) : ∃ A a b C, u = A ++ a :: b :: C ∧ A.length = k := by
  refine ⟨u.take k, u[k]'(by omega), u[k + 1]'(by omega), u.drop (k + 2), ?_, by rw [List.length_take]; omega⟩
  rw [← List.drop_eq_getElem_cons (by omega), ← List.drop_eq_getElem_cons (by omega), List.take_append_drop]
theorem swap_app {A C : List Nat} {a b k : Nat} (hA : A.length = k) : swapN (A ++ a :: b :: C) k (k + 1) = A ++ b :: a :: C := by
  unfold swapN
  subst hA
  have e1 : (A ++ a :: b :: C).getD A.length 0 = a := by simp [List.getD_eq_getElem?_getD]
  have e2 : (A ++ a :: b :: C).getD (A.length + 1) 0 = b := by simp [List.getD_eq_getElem?_getD]
  rw [e1, e2, List.set_append_right _ _ (Nat.le_refl _), Nat.sub_self, List.set_cons_zero, List.set_append_right _ _ (by omega), Nat.add_sub_cancel_left]
  rfl
theorem getD_app {A C : List Nat} {a b k : Nat} (hA : A.length = k) : (A ++ a :: b :: C).getD k 0 = a ∧ (A ++ a :: b :: C).getD (k + 1) 0 = b := by
  subst hA
  constructor <;> simp [List.getD_eq_getElem?_getD]
theorem once1_app {A C : List Nat} {a b k : Nat} (hA : A.length = k) : once1 (A ++ a :: b :: C) k = if a < b then A ++ b :: a :: C else A ++ a :: b :: C := by
  unfold once1
  rw [(getD_app hA).1, (getD_app hA).2, swap_app hA]
theorem less1_app {A C : List Nat} {a b k : Nat} (hA : A.length = k) : less1 (A ++ a :: b :: C) k = if b < a then A ++ b :: a :: C else A ++ a :: b :: C := by
  unfold less1
  rw [(getD_app hA).1, (getD_app hA).2, swap_app hA]
theorem take_lo {A C : List Nat} {a b k i : Nat} (hA : A.length = k) (hi : i ≤ k) : (A ++ a :: b :: C).take i = A.take i := List.take_append_of_le_length (by omega)
theorem take_mid {A C : List Nat} {a b k : Nat} (hA : A.length = k) (t : Nat) : cge t ((A ++ a :: b :: C).take (k + 1)) = cge t A + if t ≤ a then 1 else 0 := by
  rw [List.take_append, List.take_of_length_le (by omega), cge_app, hA, Nat.add_sub_cancel_left, List.take_succ_cons, List.take_zero, cge_cons, cge_nil, Nat.zero_add]
theorem take_hi {A C : List Nat} {a b k j : Nat} (hA : A.length = k) (t : Nat) : cge t ((A ++ a :: b :: C).take (k + 2 + j)) = cge t A + (if t ≤ a then 1 else 0) + (if t ≤ b then 1 else 0) + cge t (C.take j) := by
  rw [List.take_append, List.take_of_length_le (by omega), cge_app, hA, show k + 2 + j - k = j + 1 + 1 by omega, List.take_succ_cons, List.take_succ_cons, cge_cons, cge_cons]
  omega
theorem gal1 {n k : Nat} {u v : List Nat} (hu : u.length = n) (hv : v.length = n) (hk : k + 1 < n) : Bel n v (once1 u k) ↔ Bel n (less1 v k) u := by
  obtain ⟨A, a, b, C, rfl, hA⟩ := cut2 hu hk
  obtain ⟨B, c, d, E, rfl, hB⟩ := cut2 hv hk
  rw [once1_app hA, less1_app hB]
  have key : ∀ (p q r s : Nat), (p = a ∧ q = b ∨ p = b ∧ q = a) → (r = c ∧ s = d ∨ r = d ∧ s = c) → q ≤ p → r ≤ s → (Bel n (B ++ c :: d :: E) (A ++ p :: q :: C) ↔ Bel n (B ++ r :: s :: E) (A ++ a :: b :: C)) := by
    intro p q r s hpq hrs h1 h2
    constructor
    · intro H i hi t
      by_cases c1 : i ≤ k
      · have := H i hi t
        rw [take_lo hB c1, take_lo hA c1] at this ⊢
        exact this
      · have g0 := H k (by omega) t
        rw [take_lo hB (Nat.le_refl _), take_lo hA (Nat.le_refl _), List.take_of_length_le (by omega), List.take_of_length_le (by omega)] at g0
        by_cases c2 : i = k + 1
        · subst c2
          have g2 := H (k + 2 + 0) (by omega) t
          rw [take_hi hB, take_hi hA, List.take_zero, List.take_zero, cge_nil] at g2
          rw [take_mid hB, take_mid hA]
          rcases hpq with ⟨rfl, rfl⟩ | ⟨rfl, rfl⟩ <;> rcases hrs with ⟨rfl, rfl⟩ | ⟨rfl, rfl⟩ <;> (repeat' split at g2) <;> (repeat' split) <;> omega
        · obtain ⟨j, rfl⟩ : ∃ j, i = k + 2 + j := ⟨i - (k + 2), by omega⟩
          have g := H (k + 2 + j) hi t
          rw [take_hi hB, take_hi hA] at g ⊢
          rcases hpq with ⟨rfl, rfl⟩ | ⟨rfl, rfl⟩ <;> rcases hrs with ⟨rfl, rfl⟩ | ⟨rfl, rfl⟩ <;> omega
    · intro H i hi t
      by_cases c1 : i ≤ k
      · have := H i hi t
        rw [take_lo hB c1, take_lo hA c1] at this ⊢
        exact this
      · have g0 := H k (by omega) t
        rw [take_lo hB (Nat.le_refl _), take_lo hA (Nat.le_refl _), List.take_of_length_le (by omega), List.take_of_length_le (by omega)] at g0
        by_cases c2 : i = k + 1
        · subst c2
          have g2 := H (k + 2 + 0) (by omega) t
          rw [take_hi hB, take_hi hA, List.take_zero, List.take_zero, cge_nil] at g2
          rw [take_mid hB, take_mid hA]
          rcases hpq with ⟨rfl, rfl⟩ | ⟨rfl, rfl⟩ <;> rcases hrs with ⟨rfl, rfl⟩ | ⟨rfl, rfl⟩ <;> (repeat' split at g2) <;> (repeat' split) <;> omega
        · obtain ⟨j, rfl⟩ : ∃ j, i = k + 2 + j := ⟨i - (k + 2), by omega⟩
          have g := H (k + 2 + j) hi t
          rw [take_hi hB, take_hi hA] at g ⊢
          rcases hpq with ⟨rfl, rfl⟩ | ⟨rfl, rfl⟩ <;> rcases hrs with ⟨rfl, rfl⟩ | ⟨rfl, rfl⟩ <;> omega
  by_cases z1 : a < b
  · by_cases z2 : d < c
    · rw [if_pos z1, if_pos z2]
      exact key b a d c (.inr ⟨rfl, rfl⟩) (.inr ⟨rfl, rfl⟩) (by omega) (by omega)
    · rw [if_pos z1, if_neg z2]
      exact key b a c d (.inr ⟨rfl, rfl⟩) (.inl ⟨rfl, rfl⟩) (by omega) (by omega)
  · by_cases z2 : d < c
    · rw [if_neg z1, if_pos z2]
      exact key a b d c (.inl ⟨rfl, rfl⟩) (.inr ⟨rfl, rfl⟩) (by omega) (by omega)
    · rw [if_neg z1, if_neg z2]
theorem gal {n : Nat} : ∀ (ks : List Nat) (u v : List Nat), u.length = n → v.length = n → (∀ k ∈ ks, k + 1 < n) → (Bel n v (ks.foldl once1 u) ↔ Bel n (ks.reverse.foldl less1 v) u)
  | [], _, _, _, _, _ => Iff.rfl
  | k :: ks, u, v, hu, hv, hk => by
    rw [List.foldl_cons, gal ks (once1 u k) v (by rw [once1_len, hu]) hv (fun j hj => hk j (List.mem_cons_of_mem _ hj)), List.reverse_cons, List.foldl_append]
    have len : ∀ (js : List Nat) (w : List Nat), (js.foldl less1 w).length = w.length := by
      intro js
      induction js with
      | nil => intro w; rfl
      | cons j js ih => intro w; rw [List.foldl_cons, ih, less1_len]
    exact gal1 hu (by rw [len, hv]) (hk k List.mem_cons_self)
theorem gal_below {n : Nat} {u v w : List Nat} (hu : IsRow n u) (hv : IsRow n v) (hw : IsRow n w) : below v (onceW u w) = below (lessW v w) u := by
  rw [Bool.eq_iff_iff, below_iff hv (hu.onceW hw), below_iff (hv.lessW hw) hu]
  exact gal (fw w) u v hu.len hv.len (fw_lt hw.len)

/-! ### rows of at most four -/
set_option synthInstance.maxSize 100000 in
set_option synthInstance.maxHeartbeats 4000000 in
theorem mem_allR : ∀ n, 1 ≤ n → n ≤ 4 → ∀ r, IsRow n r → r ∈ allR n
  | 1, _, _, r, h => by
    match r, h.len with
    | [a], _ =>
      have h1 := h.lt a (by simp)
      have : ∀ a, a < 1 → [a] ∈ allR 1 := by decide +kernel
      exact this a h1
  | 2, _, _, r, h => by
    match r, h.len with
    | [a, b], _ =>
      have h1 := h.lt a (by simp)
      have h2 := h.lt b (by simp)
      have : ∀ a, a < 2 → ∀ b, b < 2 → [a, b].Nodup → [a, b] ∈ allR 2 := by decide +kernel
      exact this a h1 b h2 h.nd
  | 3, _, _, r, h => by
    match r, h.len with
    | [a, b, c], _ =>
      have h1 := h.lt a (by simp)
      have h2 := h.lt b (by simp)
      have h3 := h.lt c (by simp)
      have : ∀ a, a < 3 → ∀ b, b < 3 → ∀ c, c < 3 → [a, b, c].Nodup → [a, b, c] ∈ allR 3 := by decide +kernel
      exact this a h1 b h2 c h3 h.nd
  | 4, _, _, r, h => by
    match r, h.len with
    | [a, b, c, d], _ =>
      have h1 := h.lt a (by simp)
      have h2 := h.lt b (by simp)
      have h3 := h.lt c (by simp)
      have h4 := h.lt d (by simp)
      have : ∀ a, a < 4 → ∀ b, b < 4 → ∀ c, c < 4 → ∀ d, d < 4 → [a, b, c, d].Nodup → [a, b, c, d] ∈ allR 4 := by decide +kernel
      exact this a h1 b h2 c h3 d h4 h.nd
theorem allR_row : ∀ n, 1 ≤ n → n ≤ 4 → ∀ r ∈ allR n, IsRow n r := by
  have : ∀ n, n < 5 → ∀ r ∈ allR n, r.length = n ∧ (∀ k, k < n → k ∈ r) ∧ (∀ k ∈ r, k < n) ∧ r.Nodup := by decide +kernel
  intro n _ h4 r hr
  obtain ⟨h1, h2, h3, h5⟩ := this n (by omega) r hr
  exact ⟨h1, h2, h3, h5⟩
def chk (u w : List Nat) : Bool :=
  let told := onceW u w
  let bu := rowsB u
  let bw := rowsB w
  let tops1 := bu.map fun one => behind one w
  let tops2 := bw.map fun other => behind u other
  let lows := bw.map fun other => behind u (otherW other)
  let low := lessW u w
  tops1.all (fun r => below r told) && (tops2.all (fun r => below r told) && (decide (told ∈ tops2) && (lows.all (fun r => below low r) && (decide (low ∈ lows) && ((decide (told = behind u w) == decide (lenW (behind u w) = lenW u + lenW w)) && !decide (lenW told < max (lenW u) (lenW w)))))))
theorem chk_all : ∀ n, n < 5 → ∀ u ∈ allR n, ∀ w ∈ allR n, chk u w = true := by decide +kernel
theorem gen1 : ∀ n, n < 5 → ∀ k, k < n - 1 → ∀ u ∈ allR n, ∀ w ∈ allR n, once1 (onceW u w) k = onceW u (once1 w k) := by decide +kernel
theorem gen2 : ∀ n, n < 5 → ∀ k, k < n - 1 → ∀ u ∈ allR n, ∀ x ∈ allR n, lessW u (once1 x k) = lessW (less1 u k) x := by decide +kernel

theorem once_assoc {n : Nat} (h1 : 1 ≤ n) (h4 : n ≤ 4) {u w : List Nat} (hu : IsRow n u) : ∀ (ks : List Nat) (w : List Nat), IsRow n w → (∀ k ∈ ks, k + 1 < n) → ks.foldl once1 (onceW u w) = onceW u (ks.foldl once1 w)
  | [], _, _, _ => rfl
  | k :: ks, w, hw, hk => by
    have hk0 := hk k List.mem_cons_self
    rw [List.foldl_cons, List.foldl_cons, gen1 n (by omega) k (by omega) u (mem_allR n h1 h4 u hu) w (mem_allR n h1 h4 w hw)]
    exact once_assoc (w := w) h1 h4 hu ks (once1 w k) (hw.once1 hk0) (fun j hj => hk j (List.mem_cons_of_mem _ hj))
theorem less_assoc {n : Nat} (h1 : 1 ≤ n) (h4 : n ≤ 4) : ∀ (ks : List Nat) (u x : List Nat), IsRow n u → IsRow n x → (∀ k ∈ ks, k + 1 < n) → lessW u (ks.foldl once1 x) = lessW (ks.reverse.foldl less1 u) x
  | [], _, _, _, _, _ => rfl
  | k :: ks, u, x, hu, hx, hk => by
    have hk0 := hk k List.mem_cons_self
    have hks : ∀ j ∈ ks, j + 1 < n := fun j hj => hk j (List.mem_cons_of_mem _ hj)
    rw [List.foldl_cons, less_assoc h1 h4 ks u (once1 x k) hu (hx.once1 hk0) hks]
    have hr : IsRow n (ks.reverse.foldl less1 u) := foldl_row (fun _ _ h hk => h.less1 hk) _ _ (fun j hj => hks j (List.mem_reverse.mp hj)) hu
    rw [gen2 n (by omega) k (by omega) _ (mem_allR n h1 h4 _ hr) x (mem_allR n h1 h4 x hx), List.reverse_cons, List.foldl_append]
    rfl
/-! ### the law -/
theorem rowsB_row {n : Nat} {w : List Nat} (h1 : 1 ≤ n) (h4 : n ≤ 4) (hw : IsRow n w) : ∀ r ∈ rowsB w, IsRow n r := fun r hr => by
  unfold rowsB at hr
  rw [hw.len] at hr
  exact allR_row n h1 h4 r (List.mem_filter.mp hr).1
theorem rowsB_len {n : Nat} {w : List Nat} (h1 : 1 ≤ n) (h4 : n ≤ 4) (hw : IsRow n w) : (rowsB w).length ≤ 24 := by
  have hl : ∀ n, n < 5 → (allR n).length ≤ 24 := by decide +kernel
  unfold rowsB
  rw [hw.len]
  exact Nat.le_trans (List.length_filter_le _ _) (hl n (by omega))
theorem behind_len (u w : List Nat) : (behind u w).length = w.length := by unfold behind; rw [List.length_map]
theorem otherW_len (w : List Nat) : (otherW w).length = w.length := by unfold otherW; rw [List.length_map, List.length_range]
end W81

set_option Elab.async false
set_option linter.all false
set_option maxRecDepth 100000
set_option maxHeartbeats 4000000
namespace W81
open PySem L2 DL
abbrev eRow : En (List Nat) := En.tup En.nat
/-- the law's slots: the source stands in the second -/
def Sh (ρ : Rho) : Prop := ρ.length = 17 ∧ ρ[1]? = some .sr
theorem filter_none {α : Type} {p : α → Bool} {xs : List α} (h : xs.all p = true) : xs.filter (fun x => !p x) = [] := by
  rw [List.filter_eq_nil_iff]
  intro x hx
  rw [List.all_eq_true] at h
  rw [h x hx]
  decide
theorem none_ev {xs : List (List Nat)} {g h : Y} {ρ : Rho} {s : Src} (h1 : g ρ s = some (eRs xs, s)) (h2 : h ρ s = some (.list [], s)) (h3 : xs = []) : bT (y2 neD g h) ρ s = some (false, s) := by
  have := eRow.lst.neD (by decide) xs []
  rw [decide_eq_true h3] at this
  exact bT_ev (y2_ev h1 h2 this)
theorem hlaw (ns : List Int) (hns : ns.length ≤ 63) : ∃ s, G_law ((List.replicate 17 Sl.un).set 1 .sr) (mkSrc ns) = some (.rt (.bool true), s) := by
  unfold G_law
  refine rel_nx (ir1_ev (n := 3) rfl (by omega)) Sh (fun x ρ s hx hS => ?_) ⟨rfl, rfl⟩ (fun ρ s hS => ⟨s, rfl⟩)
  obtain ⟨hl, h1⟩ := hS
  match ρ, hl, h1 with
  | [a0, a1, a2, a3, a4, a5, a6, a7, a8, a9, a10, a11, a12, a13, a14, a15, a16], _, h1 =>
  cases h1
  -- the draws
  obtain ⟨k, s1, hk, hp⟩ := pick_ev (n := 4) (by decide) (by decide) s
  obtain ⟨u, s2, hu, e_u⟩ := row_ev (n := 1 + k) (by omega) s1
  obtain ⟨w, s3, hw, e_w⟩ := row_ev (n := 1 + k) (by omega) s2
  obtain ⟨v, s4, hv, e_v⟩ := row_ev (n := 1 + k) (by omega) s3
  have b1 : 1 ≤ 1 + k := by omega
  have b4 : 1 + k ≤ 4 := by omega
  have b12 : 1 + k ≤ 12 := by omega
  have ck := chk_all (1 + k) (by omega) u (mem_allR _ b1 b4 u hu) w (mem_allR _ b1 b4 w hw)
  unfold chk at ck
  simp only [Bool.and_eq_true] at ck
  obtain ⟨c1, c2, c3, c4, c5, c6, c7⟩ := ck
  have told := hu.onceW hw
  have low := hu.lessW hw
  have ru := rowsB_row b1 b4 hu
  have rw' := rowsB_row b1 b4 hw
  have lu := rowsB_len b1 b4 hu
  have lw := rowsB_len b1 b4 hw
  have l100 : ∀ {m : Nat}, m ≤ 24 → m ≤ lim := fun h => by show _ ≤ 100000; omega
  have behindI : ∀ {p q : List Nat}, IsRow (1 + k) p → IsRow (1 + k) q → m_law_behind [eR p, eR q] = some (eR (behind p q)) := fun hp hq => behind_ev _ _ (fun j hj => by rw [hp.len]; exact hq.lt j hj) (by rw [hq.len]; omega)
  refine body_e ?_
  refine seq_e (asg_ev (y2_ev rfl (draw_ev rfl (ac_ev rfl an_ev) rfl hp) (add_N 1 k))) ?_
  refine seq_e (par3_ev (draw_ev rfl (ac_ev rfl an_ev) rfl e_u) (draw_ev rfl (ac_ev rfl an_ev) rfl e_w) (draw_ev rfl (ac_ev rfl an_ev) rfl e_v)) ?_
  refine seq_e (asg_ev (fr_ev (lcG_ev (e := eR) (e' := eR) (xs := rowsB u) (fun one => behind one w) (iy_ev (call_ev (ac_ev rfl an_ev) rfl (rowsB_ev u (by rw [hu.len]; omega) (by rw [hu.len]; omega))) rfl) (fun r hr => call_ev (ac_ev rfl (ac_ev rfl an_ev)) rfl (behindI (ru r hr) hw)) (l100 lu)))) ?_
  refine seq_e (asg_ev (call_ev (ac_ev rfl (ac_ev rfl an_ev)) rfl (m_once_ev hu.len hw b12))) ?_
  refine seq_e (ifno_e (none_ev (fr_ev (lcF_ev (e := eR) (xs := (rowsB u).map fun one => behind one w) (fun r => !below r (onceW u w)) (iy_ev rfl rfl) (fun r hr => ⟨notT_ev (bT_ev (call_ev (ac_ev rfl (ac_ev rfl an_ev)) rfl (below_ev r (onceW u w) ?_))), rfl⟩) (l100 (by rw [List.length_map]; exact lu)))) (fr_ev rfl) (filter_none c1))) ?_
  · obtain ⟨q, _, rfl⟩ := List.mem_map.mp hr
    rw [behind_len, hw.len]
    omega
  refine seq_e (asg_ev (fr_ev (lcG_ev (e := eR) (e' := eR) (xs := rowsB w) (fun other => behind u other) (iy_ev (call_ev (ac_ev rfl an_ev) rfl (rowsB_ev w (by rw [hw.len]; omega) (by rw [hw.len]; omega))) rfl) (fun r hr => call_ev (ac_ev rfl (ac_ev rfl an_ev)) rfl (behindI hu (rw' r hr))) (l100 lw)))) ?_
  refine seq_e (ifno_e (or_no (none_ev (fr_ev (lcF_ev (e := eR) (xs := (rowsB w).map fun other => behind u other) (fun r => !below r (onceW u w)) (iy_ev rfl rfl) (fun r hr => ⟨notT_ev (bT_ev (call_ev (ac_ev rfl (ac_ev rfl an_ev)) rfl (below_ev r (onceW u w) ?_))), rfl⟩) (l100 (by rw [List.length_map]; exact lw)))) (fr_ev rfl) (filter_none c2)) (bT_ev (y2_ev rfl rfl ((eRow.inL (by decide) true (onceW u w) _).trans (by simp [of_decide_eq_true c3])))))) ?_
  · obtain ⟨q, hq, rfl⟩ := List.mem_map.mp hr
    rw [behind_len, (rw' q hq).len]
    omega
  refine seq_e (asg_ev (fr_ev (lcG_ev (e := eR) (e' := eR) (xs := rowsB w) (fun other => behind u (otherW other)) (iy_ev (call_ev (ac_ev rfl an_ev) rfl (rowsB_ev w (by rw [hw.len]; omega) (by rw [hw.len]; omega))) rfl) (fun r hr => call_ev (ac_ev rfl (ac_ev (call_ev (ac_ev rfl an_ev) rfl (other_ev r (fun j hj => (rw' r hr).mem j (by rw [← (rw' r hr).len]; exact hj)) (by rw [(rw' r hr).len]; omega))) an_ev)) rfl (behind_ev _ _ (fun j hj => ?_) (by rw [otherW_len, (rw' r hr).len]; omega))) (l100 lw)))) ?_
  · unfold otherW at hj
    obtain ⟨q, hq, rfl⟩ := List.mem_map.mp hj
    obtain ⟨l1, _⟩ := idx_get ((rw' r hr).mem q (by rw [← (rw' r hr).len]; exact List.mem_range.mp hq))
    rw [hu.len, ← (rw' r hr).len]
    exact l1
  refine seq_e (asg_ev (call_ev (ac_ev rfl (ac_ev rfl an_ev)) rfl (m_less_ev hu.len hw b12))) ?_
  refine seq_e (ifno_e (or_no (none_ev (fr_ev (lcF_ev (e := eR) (xs := (rowsB w).map fun other => behind u (otherW other)) (fun r => !below (lessW u w) r) (iy_ev rfl rfl) (fun r hr => ⟨notT_ev (bT_ev (call_ev (ac_ev rfl (ac_ev rfl an_ev)) rfl (below_ev (lessW u w) r (by rw [low.len]; omega)))), rfl⟩) (l100 (by rw [List.length_map]; exact lw)))) (fr_ev rfl) (filter_none c4)) (bT_ev (y2_ev rfl rfl ((eRow.inL (by decide) true (lessW u w) _).trans (by simp [of_decide_eq_true c5])))))) ?_
  have as1 : onceW (onceW u w) v = onceW u (onceW w v) := once_assoc (w := w) b1 b4 hu (fw v) w hw (fw_lt hv.len)
  have as2 : lessW (lessW u w) v = lessW u (onceW v w) := (less_assoc b1 b4 (fw w) u v hu hv (fw_lt hw.len)).symm
  refine seq_e (ifno_e (or_no (bT_ev (y2_ev (call_ev (ac_ev (call_ev (ac_ev rfl (ac_ev rfl an_ev)) rfl (m_once_ev hu.len hw b12)) (ac_ev rfl an_ev)) rfl (m_once_ev told.len hv b12)) (call_ev (ac_ev rfl (ac_ev (call_ev (ac_ev rfl (ac_ev rfl an_ev)) rfl (m_once_ev hw.len hv b12)) an_ev)) rfl (m_once_ev hu.len (hw.onceW hv) b12)) ((eRow.neD (by decide) _ _).trans (by rw [decide_eq_true as1]; rfl))))
    (bT_ev (y2_ev (call_ev (ac_ev (call_ev (ac_ev rfl (ac_ev rfl an_ev)) rfl (m_less_ev hu.len hw b12)) (ac_ev rfl an_ev)) rfl (m_less_ev low.len hv b12)) (call_ev (ac_ev rfl (ac_ev (call_ev (ac_ev rfl (ac_ev rfl an_ev)) rfl (m_once_ev hv.len hw b12)) an_ev)) rfl (m_less_ev hu.len (hv.onceW hw) b12)) ((eRow.neD (by decide) _ _).trans (by rw [decide_eq_true as2]; rfl)))))) ?_
  have lenI : ∀ {p : List Nat}, p.length = 1 + k → m_law_length [eR p] = some (eN (lenW p)) := fun hp => length_ev _ (by rw [hp]; omega)
  have bl : (behind u w).length = 1 + k := by rw [behind_len, hw.len]
  refine seq_e (asg_ev (y2_ev (call_ev (ac_ev (call_ev (ac_ev rfl (ac_ev rfl an_ev)) rfl (behindI hu hw)) an_ev) rfl (lenI bl)) (y2_ev (call_ev (ac_ev rfl an_ev) rfl (lenI hu.len)) (call_ev (ac_ev rfl an_ev) rfl (lenI hw.len)) (add_N _ _)) (En.nat.eqD (by decide) _ _))) ?_
  refine seq_e (ifno_e (or_no (bT_ev (y2_ev (y2_ev rfl (call_ev (ac_ev rfl (ac_ev rfl an_ev)) rfl (behindI hu hw)) (eRow.eqD (by decide) _ _)) rfl ((En.bool.neD (by decide) _ _).trans (by rw [eq_of_beq c6]; simp))))
    (bT_ev (y2_ev (call_ev (ac_ev rfl an_ev) rfl (lenI told.len)) (yC_ev (ac_ev (call_ev (ac_ev rfl an_ev) rfl (lenI hu.len)) (ac_ev (call_ev (ac_ev rfl an_ev) rfl (lenI hw.len)) an_ev)) (max_N _ _)) ((lt_N _ _).trans ?_))))) ?_
  · rw [Bool.not_eq_true'] at c7
    rw [c7]
  refine rel_nx1 (ir1_ev (n := 4) rfl (by omega)) Sh (fun x ρ s hx hS => body_e ?_) ⟨rfl, rfl⟩
  obtain ⟨hl, h1⟩ := hS
  match ρ, hl, h1 with
  | [a0, a1, a2, a3, a4, a5, a6, a7, a8, a9, a10, a11, a12, a13, a14, a15, a16], _, h1 =>
  cases h1
  obtain ⟨k, s1, hk, hp⟩ := pick_ev (n := 12) (by decide) (by decide) s
  obtain ⟨u, s2, hu, e_u⟩ := row_ev (n := 1 + k) (by omega) s1
  obtain ⟨w, s3, hw, e_w⟩ := row_ev (n := 1 + k) (by omega) s2
  obtain ⟨v, s4, hv, e_v⟩ := row_ev (n := 1 + k) (by omega) s3
  obtain ⟨j, s5, hj, hpj⟩ := pick_ev (n := 2) (by decide) (by decide) s4
  have b12 : 1 + k ≤ 12 := by omega
  refine seq_e (asg_ev (y2_ev rfl (draw_ev rfl (ac_ev rfl an_ev) rfl hp) (add_N 1 k))) ?_
  refine seq_e (par3_ev (draw_ev rfl (ac_ev rfl an_ev) rfl e_u) (draw_ev rfl (ac_ev rfl an_ev) rfl e_w) (draw_ev rfl (ac_ev rfl an_ev) rfl e_v)) ?_
  have done : ∀ (v : List Nat) (s : Src), IsRow (1 + k) v → ∃ ρ2 s2, (ifS (bT (y2 neD (callY 2 m_law_is_below (aCons (varY 13) (aCons (callY 2 m_once (aCons (varY 4) (aCons (varY 5) aNil))) aNil))) (callY 2 m_law_is_below (aCons (callY 2 m_less (aCons (varY 13) (aCons (varY 5) aNil))) (aCons (varY 4) aNil)))))
        (retS (cY (.bool false)))
        nxS) [a0, .sr, a2, .fz (eN (1 + k)), .fz (eR u), .fz (eR w), a6, a7, a8, a9, a10, a11, .fz x, .fz (eR v), a14, a15, a16] s = some (.nx ρ2, s2) ∧ Sh ρ2 := fun v s hv => by
    exact ⟨_, s, ifno_e (bT_ev (y2_ev (call_ev (ac_ev rfl (ac_ev (call_ev (ac_ev rfl (ac_ev rfl an_ev)) rfl (m_once_ev hu.len hw b12)) an_ev)) rfl (below_ev v (onceW u w) (by rw [hv.len]; omega))) (call_ev (ac_ev (call_ev (ac_ev rfl (ac_ev rfl an_ev)) rfl (m_less_ev hv.len hw b12)) (ac_ev rfl an_ev)) rfl (below_ev (lessW v w) u (by rw [(hv.lessW hw).len]; omega))) ((En.bool.neD (by decide) _ _).trans (by rw [gal_below hu hv hw]; simp)))), ⟨rfl, rfl⟩⟩
  have et : ∀ ρ : Rho, ρ[1]? = some .sr → bT (y2 eqD (drawY 1 1 pickM (aCons (cY (.int 2)) aNil)) (cY (.int 0))) ρ s4 = some (decide (j = 0), s5) := fun ρ hρ => bT_ev (y2_ev (draw_ev hρ (ac_ev rfl an_ev) rfl hpj) rfl (En.nat.eqD (by decide) j 0))
  by_cases hj0 : j = 0
  · refine seq_e (asg_ev (ifY_s (et _ rfl) ?_)) (done v s5 hv)
    rw [decide_eq_true hj0]
    rfl
  · have hr0 : IsRow (1 + k) (List.range (1 + k)) := isRow_of_perm (.refl _)
    obtain ⟨r, s6, hr, e_r⟩ := raised_ev hr0 b12 s5
    refine seq_e (asg_ev (ifY_s (et _ rfl) ?_)) (done (lessW (onceW u w) r) s6 ((hu.onceW hw).lessW hr))
    rw [decide_eq_false hj0]
    exact call_ev (ac_ev (call_ev (ac_ev rfl (ac_ev rfl an_ev)) rfl (m_once_ev hu.len hw b12)) (ac_ev (draw_ev rfl (ac_ev (trange_ev b12 rfl) (ac_ev rfl an_ev)) rfl e_r) an_ev)) rfl (m_less_ev (hu.onceW hw).len hr b12)
end W81

set_option Elab.async false
set_option linter.all false
open PySem PySem.W PyProof.Rows in
set_option maxRecDepth 100000 in
set_option maxHeartbeats 0 in
theorem PySem.Challenge.cw_leastlattices_k81_whole_greatest_product_holds : PySem.Challenge.rw_leastlattices_k81_whole_greatest_product.Holds := by
  w_on; o_law; k_head; (case hw => w_witness2)
  k_fill
  refine W81.walk (l := PySem.Challenge.rw_leastlattices_k81_whole_greatest_product) rfl rfl (fun w h Y => PySem.W.kIn_of Y) ?F
  case F =>
    intro w mg fa h KX G hmg
    refine' W81.all_mk W81.hlaw KX G hmg ?a1 ?l1 ?c1 ?k1 ?a2 ?l2 ?c2 ?k2 ?a3 ?l3 ?c3 ?k3 ?a4 ?l4 ?c4 ?k4 ?a5 ?l5 ?c5 ?k5 ?a6 ?l6 ?c6 ?k6 ?a7 ?l7 ?c7 ?k7 ?a8 ?l8 ?c8 ?k8 ?a9 ?l9 ?c9 ?k9 ?a10 ?l10 ?c10 ?k10 ?a11 ?l11 ?c11 ?k11 ?a12 ?l12 ?c12 ?k12 ?a13 ?l13 ?c13 ?k13 ?a14 ?l14 ?c14 ?k14 ?a15 ?l15 ?c15 ?k15 ?a16 ?l16 ?c16 ?k16 ?a17 ?l17 ?c17 ?k17 ?a18 ?l18 ?c18 ?k18 ?a19 ?l19 ?c19 ?k19 ?a20 ?l20 ?c20 ?k20 ?a21 ?l21 ?c21 ?k21 ?a22 ?l22 ?c22 ?k22 ?z_list ?z_tuple ?z_sorted ?z_len ?z_range ?z_int ?z_abs ?z_max ?z_sum ?z_zip
    (case a1 => k_is)
    (case l1 => k_is)
    (case c1 => k_is)
    (case k1 => k_is)
    (case a2 => k_is)
    (case l2 => k_is)
    (case c2 => k_is)
    (case k2 => k_is)
    (case a3 => k_is)
    (case l3 => k_is)
    (case c3 => k_is)
    (case k3 => k_is)
    (case a4 => k_is)
    (case l4 => k_is)
    (case c4 => k_is)
    (case k4 => k_is)
    (case a5 => k_is)
    (case l5 => k_is)
    (case c5 => k_is)
    (case k5 => k_is)
    (case a6 => k_is)
    (case l6 => k_is)
    (case c6 => k_is)
    (case k6 => k_is)
    (case a7 => k_is)
    (case l7 => k_is)
    (case c7 => k_is)
    (case k7 => k_is)
    (case a8 => k_is)
    (case l8 => k_is)
    (case c8 => k_is)
    (case k8 => k_is)
    (case a9 => k_is)
    (case l9 => k_is)
    (case c9 => k_is)
    (case k9 => k_is)
    (case a10 => k_is)
    (case l10 => k_is)
    (case c10 => k_is)
    (case k10 => k_is)
    (case a11 => k_is)
    (case l11 => k_is)
    (case c11 => k_is)
    (case k11 => k_is)
    (case a12 => k_is)
    (case l12 => k_is)
    (case c12 => k_is)
    (case k12 => k_is)
    (case a13 => k_is)
    (case l13 => k_is)
    (case c13 => k_is)
    (case k13 => k_is)
    (case a14 => k_is)
    (case l14 => k_is)
    (case c14 => k_is)
    (case k14 => k_is)
    (case a15 => k_is)
    (case l15 => k_is)
    (case c15 => k_is)
    (case k15 => k_is)
    (case a16 => k_is)
    (case l16 => k_is)
    (case c16 => k_is)
    (case k16 => k_is)
    (case a17 => k_is)
    (case l17 => k_is)
    (case c17 => k_is)
    (case k17 => k_is)
    (case a18 => k_is)
    (case l18 => k_is)
    (case c18 => k_is)
    (case k18 => k_is)
    (case a19 => k_is)
    (case l19 => k_is)
    (case c19 => k_is)
    (case k19 => k_is)
    (case a20 => k_is)
    (case l20 => k_is)
    (case c20 => k_is)
    (case k20 => k_is)
    (case a21 => k_is)
    (case l21 => k_is)
    (case c21 => k_is)
    (case k21 => k_is)
    (case a22 => k_is)
    (case l22 => k_is)
    (case c22 => k_is)
    (case k22 => k_is)
    (case z_list => k_is)
    (case z_tuple => k_is)
    (case z_sorted => k_is)
    (case z_len => k_is)
    (case z_range => k_is)
    (case z_int => k_is)
    (case z_abs => k_is)
    (case z_max => k_is)
    (case z_sum => k_is)
    (case z_zip => k_is)

